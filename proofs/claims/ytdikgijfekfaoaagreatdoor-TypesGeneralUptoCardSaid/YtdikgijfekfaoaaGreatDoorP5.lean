/- A part of the proof: plain lemmas, rules and walks. No condition. -/
import Derived.Test.YtdikgijfekfaoaaGreatDoorP4
set_option linter.all false
namespace Go.Proofs.YtdikgijfekfaoaaGreatDoor
open Go.Proofs.YtdikgijfekfaoaaGreatDoor.Abs
set_option maxRecDepth 20000
set_option maxHeartbeats 4000000
def matB (a b:Ty):Bool:=validB a && validB b && (mT a b []).1
theorem bdSm_nil:bdSm []:=fun k t h=>by simp [mget] at h
theorem match_at (t c:Ty) (hs:t.sz<100000000) (hsc:c.sz<100000000) (h1:validB t=true) (h2:validB c=true):CallsA cx 62 [Ty.v t,Ty.v c,.map 2] [t.bx,c.bx,.map (encM (AVal.int .i64) Ty.v ([]:Bd))] (fun v h=>v=.bool (mT t c []).1∧h=[t.bx,c.bx,.map (encM (AVal.int .i64) Ty.v (mT t c []).2)]):=by
  have hid:renE (lendR [2] 3) (encM (AVal.int .i64) Ty.v (mT t c []).2)=encM (AVal.int .i64) Ty.v (mT t c []).2:=renE_id (k:=0) (fun i hi=>by omega) _ (encM_bd 0 _)
  refine CallsA_at [2] (match_spec t c [] hs hsc (valid_gd h1).1 (valid_gd h2).1 bdSm_nil) rfl dq (by simp [Ty.v]) (by simp [AObj.belO]) (by simp [renH,AObj.ren,renE,encM]) rfl (by simp [renL,AVal.ren,lendR,Ty.v]) rfl ?_
  simp [lendH,setAll,renH,AObj.ren,hid]
noncomputable def c19:Code:=bodyOf Tryz.f19
theorem matches_spec (t c:Ty) (hs:t.sz<100000000) (hsc:c.sz<100000000):CallsP cx 19 [Ty.v t,Ty.v c] (.bool (matB t c)):=by
 refine func_intro (cx:=cx) 17 0 [(ResultVar.tmp 4)] Tryz.func19 rfl rfl rfl rfl rfl zq ?_
 show wpA cx 17 0 (at_ c19 []) _ _ _
 refine qZ [(0,Ty.v t),(1,Ty.v c)] [] ?_ ?_
 refine qW 3 [(2,.ptr 0 0),(3,.ptr 1 0)] [t.bx,c.bx] ?_ ?_
 refine qV 1 ?_ ?_
 refine vcallP (args:=[.agg [.int .i64 (t.kind),.str t.name,.int .i64 (t.n),.imm (t.names.map AVal.str),.imm (t.kids.map Ty.enc)]]) kq kq kq kq (tvalid_spec t oq) (by simp [Ty.v,frzL_app,Occ.v]) (by simp [Ty.v]) (by simp [Ty.v,ownsL_app]) ?_
 refine qr 1 ?_ ?_
 by_cases hb1:(validB t)=true
 refine qm [6,7] (hb1) ?_ ?_
 refine qr 1 ?_ ?_
 refine vcallP (args:=[.agg [.int .i64 (c.kind),.str c.name,.int .i64 (c.n),.imm (c.names.map AVal.str),.imm (c.kids.map Ty.enc)]]) kq kq kq kq (tvalid_spec c oq) (by simp [Ty.v,frzL_app,Occ.v]) (by simp [Ty.v]) (by simp [Ty.v,ownsL_app]) ?_
 refine qr 2 ?_ ?_
 by_cases hb2:(validB c)=true
 refine qm [9,10,11] (hb2) ?_ ?_
 refine qr 3 ?_ ?_
 refine vcallH (args:=[.agg [.int .i64 (t.kind),.str t.name,.int .i64 (t.n),.imm (t.names.map AVal.str),.imm (t.kids.map Ty.enc)],.agg [.int .i64 (c.kind),.str c.name,.int .i64 (c.n),.imm (c.names.map AVal.str),.imm (c.kids.map Ty.enc)],.map 2]) (v:=.bool ((mT t c []).1)) (h':=[t.bx,c.bx,.map (encM (AVal.int .i64) Ty.v (mT t c []).2)]) [t.bx,c.bx,.map (encM (AVal.int .i64) Ty.v ([]:List (Int×Ty)))] kq kq kq kq kq (match_at t c hs hsc aq aq) ?_
 refine qX 2 ?_ ?_
 refine leafB (b:=((mT t c []).1)) (.inr rfl) kq ?_
 · simp [matB, *]
 iterate 3 kernel_rfl
 refine qm [9,10,11] (Bool.eq_false_iff.2 hb2) ?_ ?_
 refine qX 6 ?_ ?_
 refine leafB (b:=false) (.inr rfl) kq ?_
 · simp [matB, *]
 iterate 5 kernel_rfl
 refine qm [6,7] (Bool.eq_false_iff.2 hb1) ?_ ?_
 refine qX 10 ?_ ?_
 refine leafB (b:=false) (.inr rfl) kq ?_
 · simp [matB, *]
 iterate 6 kernel_rfl
noncomputable def c4:Code:=bodyOf Tryz.f4
end Go.Proofs.YtdikgijfekfaoaaGreatDoor
namespace Go.Proofs.YtdikgijfekfaoaaGreatDoor
open Go.Proofs.YtdikgijfekfaoaaGreatDoor.Abs
set_option maxRecDepth 20000
set_option maxHeartbeats 4000000
def isV (k n:Int):Bool:=decide (k=6) || (decide (k=5) && decide (n≠0))
noncomputable def c104:Code:=bodyOf Tryz.f104
theorem vars_any (k n:Int) (x:List UInt8) :CallsP cx 104 [.agg [.int .i64 (k),.str x,.int .i64 (n),.any,.any]] (.bool (isV k n)):=by
 refine func_intro (cx:=cx) 16 0 [(ResultVar.tmp 2)] Tryz.func104 rfl rfl rfl rfl rfl zq ?_
 show wpA cx 16 0 (at_ c104 []) _ _ _
 refine qZ [(0,.agg [.int .i64 (k),.str x,.int .i64 (n),.any,.any])] [] ?_ ?_
 refine qW 2 [(1,.ptr 0 0)] [.box [.int .i64 (k),.str x,.int .i64 (n),.any,.any]] ?_ ?_
 refine qV 4 ?_ ?_
 by_cases hb1:(k)=6
 refine qm [5,6] (beq_iff_eq.2 hb1) ?_ ?_
 refine qX 10 ?_ ?_
 refine leafB (b:=true) (.inr rfl) kq ?_
 · simp [isV, *]
 iterate 2 kernel_rfl
 refine qm [5,6] (beq_eq_false_iff_ne.2 hb1) ?_ ?_
 refine qr 4 ?_ ?_
 by_cases hb2:(k)=5
 refine qm [9,10] (beq_iff_eq.2 hb2) ?_ ?_
 refine qX 6 ?_ ?_
 refine leafB (b:=((n) != 0)) (.inr rfl) kq ?_
 by_cases hb3:(n)=0
 refine Eq.trans (bne_eq_false_iff_eq.2 hb3) ?_
 · simp [isV, *]
 refine Eq.trans (bne_iff_ne.2 hb3) ?_
 · simp [isV, *]
 iterate 2 kernel_rfl
 refine qm [9,10] (beq_eq_false_iff_ne.2 hb2) ?_ ?_
 refine qX 6 ?_ ?_
 refine leafB (b:=false) (.inr rfl) kq ?_
 · simp [isV, *]
 iterate 7 kernel_rfl
def idxI (l:List Int) (s:Int):Int:=match l.findIdx? (·==s) with
  | some i=>(i:Nat)
  | none=>-1
theorem idxI_some {l:List Int} {s:Int} {k:Nat} (hk:k<l.length) (ha:∀ i,i<k→¬ s=l.getD i 0) (h:s=l.getD k 0):((k:Nat):Int)=idxI l s:=by
  have e:∀ i (h:i<l.length),l.getD i 0=l[i]:=fun i h=>by rw [List.getD_eq_getElem?_getD,List.getElem?_eq_getElem h];rfl
  have:l.findIdx? (·==s)=some k:=by
    rw [List.findIdx?_eq_some_iff_getElem]
    refine ⟨hk,by rw [← e k hk,← h];simp,fun j hj=>?_⟩
    have:=ha j hj
    rw [e j oq] at this
    simpa using fun h=>this h.symm
  simp [idxI,this]
theorem idxI_none {l:List Int} {s:Int} (ha:∀ i,i<l.length→¬ s=l.getD i 0):-1=idxI l s:=by
  have:l.findIdx? (·==s)=none:=by
    rw [List.findIdx?_eq_none_iff]
    intro x hx
    obtain ⟨i,hi,rfl⟩:=List.getElem_of_mem hx
    have:=ha i hi
    rw [List.getD_eq_getElem?_getD,List.getElem?_eq_getElem hi] at this
    simpa using fun h:l[i]=s=>this h.symm
  simp [idxI,this]
theorem idxI_contains (l:List Int) (s:Int):decide (idxI l s ≥ 0)=l.contains s:=by
  rw [Bool.eq_iff_iff]
  simp only [decide_eq_true_eq,List.contains_iff_mem]
  unfold idxI
  split
  · rename_i i hi
    obtain ⟨h1,h2,_⟩:=List.findIdx?_eq_some_iff_getElem.1 hi
    simp at h2
    exact ⟨fun _=>h2▸List.getElem_mem h1,fun _=>by omega⟩
  · rename_i hi
    rw [List.findIdx?_eq_none_iff] at hi
    exact ⟨fun h=>by omega,fun h=>by have:=hi s h;simp at this⟩
noncomputable def c116:Code:=bodyOf Tryz.f116
theorem ixInt_spec (l:List Int) (n:Int) (hn:l.length<1000000000):CallsP cx 116 [.imm (l.map (AVal.int .i64)),.int .i64 (n)] (.int .i64 (idxI l n)):=by
 refine func_intro (cx:=cx) 19 0 [(ResultVar.tmp 4)] Tryz.func116 rfl rfl rfl rfl rfl zq ?_
 show wpA cx 19 0 (at_ c116 []) _ _ _
 refine qZ [(0,.imm (l.map (AVal.int .i64))),(1,.int .i64 (n))] [] ?_ ?_
 refine qU 1 [(0,.imm (l.map (AVal.int .i64))),(1,.int .i64 (n))] ?_ ?_
 refine qSeq ?_ ?_
 refine qV 1 ?_ ?_
 refine qy (o_lenmap (l:=l) (enc:=(AVal.int .i64)) kq ty26) ?_ ?_ ?_
 refine qR 1 [(0,.imm (l.map (AVal.int .i64))),(1,.int .i64 (n)),(7,nI l.length),(8,.int .i64 0)] [] ?_ ?_
 refine qB 0 ?_ ?_ ?_
 refine wLoop (σ:=Nat) (fun k=>[(0,.imm (l.map (AVal.int .i64))),(1,.int .i64 (n)),(7,.int .i64 ((l.length:Nat):Int)),(8,.int .i64 ((k:Nat):Int))]) (fun k=>[]) (fun k=>k≤l.length∧∀ i,i<k→¬ n=l.getD i 0) (fun k=>l.length - k) 0 kq zq ⟨⟨kq,kq,kq,kq,trivial⟩,by simp [BelL,AVal.bel],by simp,kq,by simp⟩ ?_
 rintro k ⟨hk,ha⟩
 refine qW 1 [(0,.imm (l.map (AVal.int .i64))),(1,.int .i64 (n)),(7,nI l.length),(8,nI k),(9,.bool (decide (((k:Nat):Int)<((l.length:Nat):Int))))] [] ?_ ?_
 refine qSeq ?_ ?_
 by_cases hb1:((k:Nat):Int)<((l.length:Nat):Int)
 refine qt (decide_eq_true hb1) ?_ ?_
 refine qK ?_ ?_
 refine qz [(0,.imm (l.map (AVal.int .i64))),(1,.int .i64 (n)),(7,nI l.length),(8,nI k)] ?_ ?_
 refine qSeq ?_ ?_
 refine qB 1 ?_ ?_ ?_
 refine qU 2 [(0,.imm (l.map (AVal.int .i64))),(1,.int .i64 (n)),(5,nI k),(7,nI l.length),(8,nI k)] ?_ ?_
 refine qV 3 ?_ ?_
 refine qy (o_ixmap (k:=.i64) (l:=l) (enc:=(AVal.int .i64)) (i:=((k:Nat):Int)) 0 kq ty26 ty3 (fun _=>rfl) oq oq) ?_ ?_ ?_
 refine qR 2 [(0,.imm (l.map (AVal.int .i64))),(1,.int .i64 (n)),(5,nI k),(7,nI l.length),(8,nI k),(16,.bool ((n)==((l.getD k 0))))] [] ?_ ?_
 by_cases hb2:(n)=((l.getD k 0))
 refine qt (beq_iff_eq.2 hb2) ?_ ?_
 refine qV 2 ?_ ?_
 refine qT ?_ ?_
 apply iR
 apply aR
 apply aR
 apply iR
 apply aR
 refine leafI (n:=((k:Nat):Int)) (.inr rfl) kq ?_
 rotate_left
 iterate 3 kernel_rfl
 refine qf (beq_eq_false_iff_ne.2 hb2) ?_ ?_
 refine qk ?_ ?_
 refine AIn_normal ?_
 refine AThen_normal ?_
 refine qz [(0,.imm (l.map (AVal.int .i64))),(1,.int .i64 (n)),(7,nI l.length),(8,nI k)] ?_ ?_
 refine qo ?_ ?_
 refine qy (o_add (a:=((k:Nat):Int)) (b:=1) kq oq oq) ?_ ?_ ?_
 refine qr 1 ?_ ?_
 refine qe ?_ ?_
 refine AThen_normal ⟨k+1,?_,?_,⟨⟨kq,kq,kq,kq,trivial⟩,by simp [BelL,AVal.bel],by simp,kq,by simp⟩⟩
 · omega
 · refine ⟨by omega,fun i hi=>?_⟩
   rcases Nat.lt_succ_iff_lt_or_eq.1 hi with h|h
   · exact ha i h
   · subst h;assumption
 iterate 19 kernel_rfl
 refine qf (decide_eq_false hb1) ?_ ?_
 refine wExit 0 kq kq ?_
 refine AThen_exit ?_
 refine AThen_exit ?_
 refine AIn_exit ?_
 refine AThen_normal ?_
 refine qz [] ?_ ?_
 refine qV 1 ?_ ?_
 refine qT ?_ ?_
 refine leafI (n:=(-1)) (.inr rfl) kq ?_
 rotate_left
 iterate 15 kernel_rfl
 all_goals
  first|exact idxI_some oq ha aq|exact idxI_none (fun i hi=>ha i oq)
noncomputable def c88:Code:=bodyOf Tryz.f88
theorem hasInt_spec (l:List Int) (n:Int) (hn:l.length<1000000000):CallsP cx 88 [.imm (l.map (AVal.int .i64)),.int .i64 (n)] (.bool (l.contains n)):=by
 refine func_intro (cx:=cx) 9 0 [(ResultVar.tmp 4)] Tryz.func88 rfl rfl rfl rfl rfl zq ?_
 show wpA cx 9 0 (at_ c88 []) _ _ _
 refine qZ [(0,.imm (l.map (AVal.int .i64))),(1,.int .i64 (n))] [] ?_ ?_
 refine qU 1 [(0,.imm (l.map (AVal.int .i64))),(1,.int .i64 (n))] ?_ ?_
 refine qV 2 ?_ ?_
 refine vcallP (args:=[.imm (l.map (AVal.int .i64)),.int .i64 (n)]) kq kq kq kq (ixInt_spec l (n) oq) (by simp [Ty.v,frzL_app,Occ.v]) (by simp [Ty.v]) (by simp [Ty.v,ownsL_app]) ?_
 refine qX 2 ?_ ?_
 refine leafB (b:=(decide ((idxI l (n)) ≥ 0))) (.inr rfl) kq ?_
 · exact idxI_contains l n
 iterate 4 kernel_rfl
def addN (l:List Int) (n:Int):List Int:=if l.contains n then l else l++[n]
def visN (l:List Int) (t:Ty):List Int:=((occs t).map Occ.n).foldl addN l
def visNL (l:List Int) (ks:List Ty):List Int:=((occsL ks).map Occ.n).foldl addN l
def stepN (l:List Int) (t:Ty):List Int:=if isV t.kind t.n then addN l t.n else l
theorem visN_oth (l:List Int) (t:Ty) (h:¬ t.kind=5):visN l t=visNL (stepN l t) t.kids:=by
  unfold visN visNL stepN isV
  rw [occs_eq,occV,occR,if_neg (fun hc:t.kind=5∧t.n≠0=>h hc.1),List.append_nil]
  by_cases h6:t.kind=6
  · rw [if_pos h6,if_pos (by simp [h6])];rfl
  · rw [if_neg h6,if_neg (by simp [h6,h])];rfl
theorem visN_rec (l:List Int) (t:Ty) (h:t.kind=5):visN l t=stepN (visNL l t.kids) t:=by
  unfold visN visNL stepN isV
  rw [occs_eq,occV,occR,if_neg oq,List.nil_append,List.map_append,List.foldl_append]
  by_cases hn:t.n=0
  · rw [if_neg (fun hc=>hc.2 hn),if_neg (by simp [h,hn])];rfl
  · rw [if_pos ⟨h,hn⟩,if_pos (by simp [h,hn])];rfl
theorem visNL_take (l:List Int) (ks:List Ty) (k:Nat) (h:k<ks.length):visNL l (ks.take (k+1))=visN (visNL l (ks.take k)) (ks.getD k Ty.zero):=by
  unfold visNL visN
  rw [occsL_take ks k h,List.map_append,List.foldl_append]
theorem addN_len (l:List Int) (n:Int):(addN l n).length≤l.length+1:=by unfold addN;split <;> simp
theorem foldN_len:∀ (xs l:List Int),(xs.foldl addN l).length≤l.length+xs.length
  | [],l=>by simp
  | x::xs,l=>by have:=foldN_len xs (addN l x);have:=addN_len l x;simp only [List.foldl_cons,List.length_cons];omega
theorem visN_len (l:List Int) (t:Ty):(visN l t).length≤l.length+t.sz:=by
  have:=foldN_len ((occs t).map Occ.n) l;have:=occs_len t;rw [List.length_map] at *;unfold visN;omega
theorem visNL_len (l:List Int) (ks:List Ty):(visNL l ks).length≤l.length+Ty.szL ks:=by
  have:=foldN_len ((occsL ks).map Occ.n) l;have:=occsL_len ks;rw [List.length_map] at *;unfold visNL;omega
theorem stepN_len (l:List Int) (t:Ty):(stepN l t).length≤l.length+1:=by
  unfold stepN;split
  · exact addN_len l t.n
  · omega
def hpN (u:Ty) (l:List Int):AHeap:=[u.bx,.box [.own 2 0 l.length],.arr 1 (l.map (AVal.int .i64)) (l.map (AVal.int .i64)).length]
def hpR (u:Ty) (l:List Int) (t:Ty):AHeap:=if isV t.kind t.n=true∧¬ l.contains t.n=true then [u.bx,.box [.own 2 0 (l++[t.n]).length],.arr 1 ((l++[t.n]).map (AVal.int .i64)) (l.map (AVal.int .i64)).length] else hpN u l
noncomputable def c112:Code:=bodyOf Tryz.f112
theorem num1_raw (t u:Ty) (l:List Int) (hl:l.length<900000000):CallsA cx 112 [Ty.v t,.ptr 1 0] (hpN u l) (fun v h=>v=(.tup [])∧h=hpR u l t):=by
 refine func_intro (cx:=cx) 17 3 [] Tryz.func112 rfl rfl rfl rfl rfl zq ?_
 show wpA cx 17 3 (at_ c112 []) _ _ _
 refine qZ [(0,Ty.v t),(1,.ptr 1 0)] [u.bx,.box [.own 2 0 l.length],.arr 1 (l.map (AVal.int .i64)) (l.map (AVal.int .i64)).length] ?_ ?_
 refine qW 1 [(1,.ptr 1 0),(2,.ptr 3 0)] [u.bx,.box [.own 2 0 l.length],.arr 1 (l.map (AVal.int .i64)) (l.map (AVal.int .i64)).length,t.bx] ?_ ?_
 refine qV 1 ?_ ?_
 refine vcallH (args:=[.agg [.int .i64 (t.kind),.str t.name,.int .i64 (t.n),.imm (t.names.map AVal.str),.imm (t.kids.map Ty.enc)]]) (v:=.bool (isV (t.kind) (t.n))) (h':=[u.bx,.box [.own 2 0 l.length],.arr 1 (l.map (AVal.int .i64)) (l.map (AVal.int .i64)).length,t.bx]) [u.bx,.box [.own 2 0 l.length],.arr 1 (l.map (AVal.int .i64)) (l.map (AVal.int .i64)).length,t.bx] kq kq kq kq kq (CallsA_head (vars_any (t.kind) (t.n) t.name) rfl rfl rfl) ?_
 refine qr 1 ?_ ?_
 by_cases hb1:(isV (t.kind) (t.n))=true
 refine qm [4,5] (hb1) ?_ ?_
 refine qr 3 ?_ ?_
 refine vZ (args:=[.own 2 0 l.length,.int .i64 (t.n)]) (F:=[u.bx,.box [.own 2 0 l.length],.arr 1 (l.map (AVal.int .i64)) (l.map (AVal.int .i64)).length,t.bx]) kq kq kq kq (hasInt_spec l (t.n) oq) [u.bx,.box [.own 2 0 l.length],.arr 1 (l.map (AVal.int .i64)) (l.map (AVal.int .i64)).length,t.bx] kq (by simp [frzL,frzH,ownsL,AVal.frz,AVal.owns]) (by simp [Ty.v]) (by simp [frzL,frzH,ownsL,AVal.frz,AVal.owns]) ?_
 refine qR 2 [(1,.ptr 1 0),(2,.ptr 3 0),(11,.bool (!(l.contains (t.n))))] [u.bx,.box [.own 2 0 l.length],.arr 1 (l.map (AVal.int .i64)) (l.map (AVal.int .i64)).length,t.bx] ?_ ?_
 by_cases hb2:(l.contains (t.n))=true
 refine qf (x:=(!(l.contains (t.n)))) (congrArg not (hb2)) ?_ ?_
 refine qk ?_ ?_
 refine leafA (l:=[]) (.inl rfl) kq (by simp [awrap]) (by simp [awrap]) (by simp [awrap]) ?_ ?_
 refine Eq.trans (b:=[u.bx,.box [.own 2 0 l.length],.arr 1 (l.map (AVal.int .i64)) (l.map (AVal.int .i64)).length]) kq ?_
 rotate_left
 · first|(simp [AObj.belO,hpN,Ty.v];done)|(unfold hpR;split <;> simp [AObj.belO,hpN,Ty.v,-List.map_append])
 iterate 2 kernel_rfl
 refine qt (x:=(!(l.contains (t.n)))) (congrArg not (Bool.eq_false_iff.2 hb2)) ?_ ?_
 refine qo ?_ ?_
 refine qr 4 ?_ ?_
 refine qY (o_appmap (o:=2) (len:=l.length) (l:=l) (xs:=[(t.n)]) (enc:=(AVal.int .i64)) (sz:=1) (fr:=(l.map (AVal.int .i64)).length) (x:=(.full [.int .i64 (t.n)])) kq ty26 ty3 ty26 rfl kq rfl rfl kq ⟨by decide,by kernel_rfl⟩ (fun _=>rfl) (by simp only [List.length_append,List.length_map,List.length_cons,List.length_nil];omega) (by simp only [List.length_append,List.length_map,List.length_cons,List.length_nil];omega)) ?_ ?_ ?_
 refine qr 1 ?_ ?_
 refine qe ?_ ?_
 refine leafA (l:=[]) (.inl rfl) kq (by simp [awrap]) (by simp [awrap]) (by simp [awrap]) ?_ ?_
 refine Eq.trans (b:=[u.bx,.box [.own 2 0 (l++[(t.n)]).length],.arr 1 ((l++[(t.n)]).map (AVal.int .i64)) (l.map (AVal.int .i64)).length]) kq ?_
 rotate_left
 · first|(simp [AObj.belO,hpN,Ty.v];done)|(unfold hpR;split <;> simp [AObj.belO,hpN,Ty.v,-List.map_append])
 iterate 10 kernel_rfl
 refine qm [4,5] (Bool.eq_false_iff.2 hb1) ?_ ?_
 refine qR 6 [(1,.ptr 1 0),(2,.ptr 3 0),(11,.bool false)] [u.bx,.box [.own 2 0 l.length],.arr 1 (l.map (AVal.int .i64)) (l.map (AVal.int .i64)).length,t.bx] ?_ ?_
 refine wIfF kq kq ?_
 refine qk ?_ ?_
 refine leafA (l:=[]) (.inl rfl) kq (by simp [awrap]) (by simp [awrap]) (by simp [awrap]) ?_ ?_
 refine Eq.trans (b:=[u.bx,.box [.own 2 0 l.length],.arr 1 (l.map (AVal.int .i64)) (l.map (AVal.int .i64)).length]) kq ?_
 rotate_left
 · first|(simp [AObj.belO,hpN,Ty.v];done)|(unfold hpR;split <;> simp [AObj.belO,hpN,Ty.v,-List.map_append])
 iterate 7 kernel_rfl
 all_goals
  unfold hpR
  first|(rw [if_pos ⟨by assumption,by assumption⟩];done)|(rw [if_pos ⟨by assumption,by assumption⟩];rfl)|(rw [if_neg (fun hc=>absurd hc.1 aq)];rfl)|(rw [if_neg (fun hc=>hc.2 aq)];rfl)
theorem num1_spec (t u:Ty) (l:List Int) (hl:l.length<900000000):CallsA cx 112 [t.v,.ptr 1 0] (hpN u l) (fun v h=>v=.tup []∧h=hpN u (stepN l t)):=by
  refine CallsA_lock [2] (num1_raw t u l hl) ?_
  unfold hpR stepN addN
  by_cases h1:isV t.kind t.n=true
  · by_cases h2:l.contains t.n=true
    · rw [if_neg (fun hc=>hc.2 h2),if_pos h1,if_pos h2];rfl
    · rw [if_pos ⟨h1,h2⟩,if_pos h1,if_neg h2];rfl
  · rw [if_neg (fun hc=>h1 hc.1),if_neg h1];rfl
theorem szL_at:∀ (ks:List Ty) (k:Nat),k<ks.length→Ty.szL (ks.take k)+(ks.getD k Ty.zero).sz≤Ty.szL ks
  | [],k,h=>by simp at h
  | x::ks,0,_=>by simp only [List.take_zero,Ty.szL,List.getD_cons_zero];omega
  | x::ks,k+1,h=>by have:=szL_at ks k (by simpa using h);simp only [List.take_succ_cons,Ty.szL,List.getD_cons_succ];omega
theorem visitN_spec (t u:Ty) (l:List Int) (hs:t.sz<100000000) (hl:l.length+t.sz<800000000):CallsA cx 54 [Ty.v t,.fn (.func 112) [] [.ptr 1 0]] (hpN u l) (fun v h=>v=(.tup [])∧h=hpN u (visN l t)):=by
 induction hN:t.sz using Nat.strongRecOn generalizing t u l with|_ N ih =>
 have ihV:∀ (t' u:Ty) (l:List Int),t'.sz<t.sz→l.length+t'.sz<800000000→CallsA cx 54 [t'.v,.fn (.func 112) [] [.ptr 1 0]] (hpN u l) (fun v h=>v=.tup []∧h=hpN u (visN l t')):=fun t' u l h1 h2=>ih _ (by rw [← hN];exact h1) t' u l oq h2 rfl
 have hz2:=sz_kids t
 have hzz:=sz_eq t
 have hsl:=stepN_len l t
 refine func_intro (cx:=cx) 29 3 [] Tryz.func54 rfl rfl rfl rfl rfl zq ?_
 show wpA cx 29 3 (at_ c54 []) _ _ _
 refine qZ [(0,Ty.v t),(1,.fn (.func 112) [] [.ptr 1 0])] [u.bx,.box [.own 2 0 l.length],.arr 1 (l.map (AVal.int .i64)) (l.map (AVal.int .i64)).length] ?_ ?_
 refine qW 1 [(1,.fn (.func 112) [] [.ptr 1 0]),(2,.ptr 3 0)] [u.bx,.box [.own 2 0 l.length],.arr 1 (l.map (AVal.int .i64)) (l.map (AVal.int .i64)).length,t.bx] ?_ ?_
 refine qSeq ?_ ?_
 refine qU 3 [(1,.fn (.func 112) [] [.ptr 1 0]),(2,.ptr 3 0),(8,.bool ((t.kind) != 5))] ?_ ?_
 by_cases hb1:(t.kind)=5
 refine qf (x:=((t.kind) != 5)) (bne_eq_false_iff_eq.2 hb1) ?_ ?_
 refine qK ?_ ?_
 refine qz [(1,.fn (.func 112) [] [.ptr 1 0]),(2,.ptr 3 0)] ?_ ?_
 refine qSeq ?_ ?_
 refine qV 2 ?_ ?_
 refine qy (o_lenmap (l:=t.kids) (enc:=Ty.enc) kq ty23) ?_ ?_ ?_
 refine qR 1 [(1,.fn (.func 112) [] [.ptr 1 0]),(2,.ptr 3 0),(13,.imm (t.kids.map Ty.enc)),(14,nI t.kids.length),(15,.int .i64 0)] [u.bx,.box [.own 2 0 l.length],.arr 1 (l.map (AVal.int .i64)) (l.map (AVal.int .i64)).length,t.bx] ?_ ?_
 refine qB 0 ?_ ?_ ?_
 refine wLoop (σ:=Nat) (fun k=>[(1,.fn (.func 112) [] [.ptr 1 0]),(2,.ptr 3 0),(13,.imm (t.kids.map Ty.enc)),(14,.int .i64 ((t.kids.length:Nat):Int)),(15,.int .i64 ((k:Nat):Int))]) (fun k=>[u.bx,.box [.own 2 0 (visNL l (t.kids.take k)).length],.arr 1 ((visNL l (t.kids.take k)).map (AVal.int .i64)) ((visNL l (t.kids.take k)).map (AVal.int .i64)).length,t.bx]) (fun k=>k≤t.kids.length) (fun k=>t.kids.length - k) 0 kq (by exact Nat.zero_le _) ⟨⟨kq,kq,kq,kq,kq,trivial⟩,by simp [BelL,AVal.bel],by simp,kq,by simp [AObj.belO]⟩ ?_
 rintro k hk
 have hvl:=visNL_len l (t.kids.take k)
 have hst:=szL_take t.kids k
 have hkd:=fun h=>szL_at t.kids k h
 refine qW 1 [(1,.fn (.func 112) [] [.ptr 1 0]),(2,.ptr 3 0),(13,.imm (t.kids.map Ty.enc)),(14,nI t.kids.length),(15,nI k),(16,.bool (decide (((k:Nat):Int)<((t.kids.length:Nat):Int))))] [u.bx,.box [.own 2 0 (visNL l (t.kids.take k)).length],.arr 1 ((visNL l (t.kids.take k)).map (AVal.int .i64)) ((visNL l (t.kids.take k)).map (AVal.int .i64)).length,t.bx] ?_ ?_
 refine qSeq ?_ ?_
 by_cases hb2:((k:Nat):Int)<((t.kids.length:Nat):Int)
 refine qt (decide_eq_true hb2) ?_ ?_
 refine qK ?_ ?_
 refine qz [(1,.fn (.func 112) [] [.ptr 1 0]),(2,.ptr 3 0),(13,.imm (t.kids.map Ty.enc)),(14,nI t.kids.length),(15,nI k)] ?_ ?_
 refine qSeq ?_ ?_
 refine qB 1 ?_ ?_ ?_
 refine qO ?_ ?_
 refine qy ((o_ixmap (k:=.i64) (l:=t.kids) (enc:=Ty.enc) (i:=((k:Nat):Int)) Ty.zero kq ty23 ty25 ty_size oq oq).trans (congrArg (fun cs=>some (AVal.pimm cs 0,_)) (ty_cells (t.kids.getD k Ty.zero)))) ?_ ?_ ?_
 refine qR 3 [(1,.fn (.func 112) [] [.ptr 1 0]),(2,.ptr 3 0),(5,.ptr 4 0),(13,.imm (t.kids.map Ty.enc)),(14,nI t.kids.length),(15,nI k)] [u.bx,.box [.own 2 0 (visNL l (t.kids.take k)).length],.arr 1 ((visNL l (t.kids.take k)).map (AVal.int .i64)) ((visNL l (t.kids.take k)).map (AVal.int .i64)).length,t.bx,(t.kids.getD k Ty.zero).bx] ?_ ?_
 refine qo ?_ ?_
 refine qr 2 ?_ ?_
 refine vcallA (args:=[.agg [.int .i64 ((t.kids.getD k Ty.zero).kind),.str (t.kids.getD k Ty.zero).name,.int .i64 ((t.kids.getD k Ty.zero).n),.imm ((t.kids.getD k Ty.zero).names.map AVal.str),.imm ((t.kids.getD k Ty.zero).kids.map Ty.enc)],.fn (.func 112) [] [.ptr 1 0]]) (hs:=[u.bx,.box [.own 2 0 (visNL l (t.kids.take k)).length],.arr 1 ((visNL l (t.kids.take k)).map (AVal.int .i64)) ((visNL l (t.kids.take k)).map (AVal.int .i64)).length]) (hs':=[u.bx,.box [.own 2 0 (visN (visNL l (t.kids.take k)) (t.kids.getD k Ty.zero)).length],.arr 1 ((visN (visNL l (t.kids.take k)) (t.kids.getD k Ty.zero)).map (AVal.int .i64)) ((visN (visNL l (t.kids.take k)) (t.kids.getD k Ty.zero)).map (AVal.int .i64)).length]) (rest:=[t.bx,(t.kids.getD k Ty.zero).bx]) kq kq kq kq kq (ihV (t.kids.getD k Ty.zero) u (visNL l (t.kids.take k)) oq oq) (by simp [AObj.belO,hpN,Ty.v]) (by simp [AObj.belO,hpN,Ty.v]) rfl (by simp [AObj.belO,hpN,Ty.v]) (by simp [AObj.belO,hpN,Ty.v]) kq ?_
 refine qe ?_ ?_
 refine AIn_normal ?_
 refine AThen_normal ?_
 refine qZ [(1,.fn (.func 112) [] [.ptr 1 0]),(2,.ptr 3 0),(13,.imm (t.kids.map Ty.enc)),(14,nI t.kids.length),(15,nI k)] [u.bx,.box [.own 2 0 (visN (visNL l (t.kids.take k)) (t.kids.getD k Ty.zero)).length],.arr 1 ((visN (visNL l (t.kids.take k)) (t.kids.getD k Ty.zero)).map (AVal.int .i64)) ((visN (visNL l (t.kids.take k)) (t.kids.getD k Ty.zero)).map (AVal.int .i64)).length,t.bx,(t.kids.getD k Ty.zero).bx] ?_ ?_
 refine qo ?_ ?_
 refine qy (o_add (a:=((k:Nat):Int)) (b:=1) kq oq oq) ?_ ?_ ?_
 refine qr 1 ?_ ?_
 refine qe ?_ ?_
 refine AThen_normal ⟨k+1,?_,?_,⟨⟨kq,kq,kq,kq,kq,trivial⟩,by simp [BelL,AVal.bel],by simp,(Eq.trans (b:=[u.bx,.box [.own 2 0 (visN (visNL l (t.kids.take k)) (t.kids.getD k Ty.zero)).length],.arr 1 ((visN (visNL l (t.kids.take k)) (t.kids.getD k Ty.zero)).map (AVal.int .i64)) ((visN (visNL l (t.kids.take k)) (t.kids.getD k Ty.zero)).map (AVal.int .i64)).length,t.bx]) kq (by exact congrArg (fun q=>hpN u q++[t.bx]) (visNL_take _ t.kids k oq).symm)),by simp [AObj.belO]⟩⟩
 · omega
 · omega
 iterate 19 kernel_rfl
 refine qf (decide_eq_false hb2) ?_ ?_
 refine wExit 0 kq kq ?_
 refine AThen_exit ?_
 refine AThen_exit ?_
 refine AIn_exit ?_
 refine AThen_normal ?_
 refine qz [(1,.fn (.func 112) [] [.ptr 1 0]),(2,.ptr 3 0)] ?_ ?_
 refine qU 3 [(1,.fn (.func 112) [] [.ptr 1 0]),(2,.ptr 3 0),(25,.bool ((t.kind)==5))] ?_ ?_
 refine qt (beq_iff_eq.2 hb1) ?_ ?_
 refine qo ?_ ?_
 refine qr 2 ?_ ?_
 refine vcallA (args:=[.agg [.int .i64 (t.kind),.str t.name,.int .i64 (t.n),.imm (t.names.map AVal.str),.imm (t.kids.map Ty.enc)],.ptr 1 0]) (hs:=[u.bx,.box [.own 2 0 (visNL l (t.kids.take k)).length],.arr 1 ((visNL l (t.kids.take k)).map (AVal.int .i64)) ((visNL l (t.kids.take k)).map (AVal.int .i64)).length]) (hs':=[u.bx,.box [.own 2 0 (stepN (visNL l (t.kids.take k)) t).length],.arr 1 ((stepN (visNL l (t.kids.take k)) t).map (AVal.int .i64)) ((stepN (visNL l (t.kids.take k)) t).map (AVal.int .i64)).length]) (rest:=[t.bx]) kq kq kq kq kq (num1_spec t u (visNL l (t.kids.take k)) oq) (by simp [AObj.belO,hpN,Ty.v]) (by simp [AObj.belO,hpN,Ty.v]) rfl (by simp [AObj.belO,hpN,Ty.v]) (by simp [AObj.belO,hpN,Ty.v]) kq ?_
 refine qe ?_ ?_
 refine leafA (l:=[]) (.inl rfl) kq (by simp [awrap]) (by simp [awrap]) (by simp [awrap]) ?_ ?_
 refine Eq.trans (b:=[u.bx,.box [.own 2 0 (stepN (visNL l (t.kids.take k)) t).length],.arr 1 ((stepN (visNL l (t.kids.take k)) t).map (AVal.int .i64)) ((stepN (visNL l (t.kids.take k)) t).map (AVal.int .i64)).length]) kq ?_
 rotate_left
 · simp [AObj.belO,hpN,Ty.v]
 iterate 19 kernel_rfl
 refine qt (x:=((t.kind) != 5)) (bne_iff_ne.2 hb1) ?_ ?_
 refine qo ?_ ?_
 refine qr 2 ?_ ?_
 refine vcallA (args:=[.agg [.int .i64 (t.kind),.str t.name,.int .i64 (t.n),.imm (t.names.map AVal.str),.imm (t.kids.map Ty.enc)],.ptr 1 0]) (hs:=[u.bx,.box [.own 2 0 l.length],.arr 1 (l.map (AVal.int .i64)) (l.map (AVal.int .i64)).length]) (hs':=[u.bx,.box [.own 2 0 (stepN l t).length],.arr 1 ((stepN l t).map (AVal.int .i64)) ((stepN l t).map (AVal.int .i64)).length]) (rest:=[t.bx]) kq kq kq kq kq (num1_spec t u l oq) (by simp [AObj.belO,hpN,Ty.v]) (by simp [AObj.belO,hpN,Ty.v]) rfl (by simp [AObj.belO,hpN,Ty.v]) (by simp [AObj.belO,hpN,Ty.v]) kq ?_
 refine qN [(1,.fn (.func 112) [] [.ptr 1 0]),(2,.ptr 3 0)] [u.bx,.box [.own 2 0 (stepN l t).length],.arr 1 ((stepN l t).map (AVal.int .i64)) ((stepN l t).map (AVal.int .i64)).length,t.bx] ?_ ?_
 refine qSeq ?_ ?_
 refine qV 2 ?_ ?_
 refine qy (o_lenmap (l:=t.kids) (enc:=Ty.enc) kq ty23) ?_ ?_ ?_
 refine qR 1 [(1,.fn (.func 112) [] [.ptr 1 0]),(2,.ptr 3 0),(13,.imm (t.kids.map Ty.enc)),(14,nI t.kids.length),(15,.int .i64 0)] [u.bx,.box [.own 2 0 (stepN l t).length],.arr 1 ((stepN l t).map (AVal.int .i64)) ((stepN l t).map (AVal.int .i64)).length,t.bx] ?_ ?_
 refine qB 0 ?_ ?_ ?_
 refine wLoop (σ:=Nat) (fun k=>[(1,.fn (.func 112) [] [.ptr 1 0]),(2,.ptr 3 0),(13,.imm (t.kids.map Ty.enc)),(14,.int .i64 ((t.kids.length:Nat):Int)),(15,.int .i64 ((k:Nat):Int))]) (fun k=>[u.bx,.box [.own 2 0 (visNL (stepN l t) (t.kids.take k)).length],.arr 1 ((visNL (stepN l t) (t.kids.take k)).map (AVal.int .i64)) ((visNL (stepN l t) (t.kids.take k)).map (AVal.int .i64)).length,t.bx]) (fun k=>k≤t.kids.length) (fun k=>t.kids.length - k) 0 kq (by exact Nat.zero_le _) ⟨⟨kq,kq,kq,kq,kq,trivial⟩,by simp [BelL,AVal.bel],by simp,kq,by simp [AObj.belO]⟩ ?_
 rintro k hk
 have hvl:=visNL_len (stepN l t) (t.kids.take k)
 have hst:=szL_take t.kids k
 have hkd:=fun h=>szL_at t.kids k h
 refine qW 1 [(1,.fn (.func 112) [] [.ptr 1 0]),(2,.ptr 3 0),(13,.imm (t.kids.map Ty.enc)),(14,nI t.kids.length),(15,nI k),(16,.bool (decide (((k:Nat):Int)<((t.kids.length:Nat):Int))))] [u.bx,.box [.own 2 0 (visNL (stepN l t) (t.kids.take k)).length],.arr 1 ((visNL (stepN l t) (t.kids.take k)).map (AVal.int .i64)) ((visNL (stepN l t) (t.kids.take k)).map (AVal.int .i64)).length,t.bx] ?_ ?_
 refine qSeq ?_ ?_
 by_cases hb4:((k:Nat):Int)<((t.kids.length:Nat):Int)
 refine qt (decide_eq_true hb4) ?_ ?_
 refine qK ?_ ?_
 refine qz [(1,.fn (.func 112) [] [.ptr 1 0]),(2,.ptr 3 0),(13,.imm (t.kids.map Ty.enc)),(14,nI t.kids.length),(15,nI k)] ?_ ?_
 refine qSeq ?_ ?_
 refine qB 1 ?_ ?_ ?_
 refine qO ?_ ?_
 refine qy ((o_ixmap (k:=.i64) (l:=t.kids) (enc:=Ty.enc) (i:=((k:Nat):Int)) Ty.zero kq ty23 ty25 ty_size oq oq).trans (congrArg (fun cs=>some (AVal.pimm cs 0,_)) (ty_cells (t.kids.getD k Ty.zero)))) ?_ ?_ ?_
 refine qR 3 [(1,.fn (.func 112) [] [.ptr 1 0]),(2,.ptr 3 0),(5,.ptr 4 0),(13,.imm (t.kids.map Ty.enc)),(14,nI t.kids.length),(15,nI k)] [u.bx,.box [.own 2 0 (visNL (stepN l t) (t.kids.take k)).length],.arr 1 ((visNL (stepN l t) (t.kids.take k)).map (AVal.int .i64)) ((visNL (stepN l t) (t.kids.take k)).map (AVal.int .i64)).length,t.bx,(t.kids.getD k Ty.zero).bx] ?_ ?_
 refine qo ?_ ?_
 refine qr 2 ?_ ?_
 refine vcallA (args:=[.agg [.int .i64 ((t.kids.getD k Ty.zero).kind),.str (t.kids.getD k Ty.zero).name,.int .i64 ((t.kids.getD k Ty.zero).n),.imm ((t.kids.getD k Ty.zero).names.map AVal.str),.imm ((t.kids.getD k Ty.zero).kids.map Ty.enc)],.fn (.func 112) [] [.ptr 1 0]]) (hs:=[u.bx,.box [.own 2 0 (visNL (stepN l t) (t.kids.take k)).length],.arr 1 ((visNL (stepN l t) (t.kids.take k)).map (AVal.int .i64)) ((visNL (stepN l t) (t.kids.take k)).map (AVal.int .i64)).length]) (hs':=[u.bx,.box [.own 2 0 (visN (visNL (stepN l t) (t.kids.take k)) (t.kids.getD k Ty.zero)).length],.arr 1 ((visN (visNL (stepN l t) (t.kids.take k)) (t.kids.getD k Ty.zero)).map (AVal.int .i64)) ((visN (visNL (stepN l t) (t.kids.take k)) (t.kids.getD k Ty.zero)).map (AVal.int .i64)).length]) (rest:=[t.bx,(t.kids.getD k Ty.zero).bx]) kq kq kq kq kq (ihV (t.kids.getD k Ty.zero) u (visNL (stepN l t) (t.kids.take k)) oq oq) (by simp [AObj.belO,hpN,Ty.v]) (by simp [AObj.belO,hpN,Ty.v]) rfl (by simp [AObj.belO,hpN,Ty.v]) (by simp [AObj.belO,hpN,Ty.v]) kq ?_
 refine qe ?_ ?_
 refine AIn_normal ?_
 refine AThen_normal ?_
 refine qZ [(1,.fn (.func 112) [] [.ptr 1 0]),(2,.ptr 3 0),(13,.imm (t.kids.map Ty.enc)),(14,nI t.kids.length),(15,nI k)] [u.bx,.box [.own 2 0 (visN (visNL (stepN l t) (t.kids.take k)) (t.kids.getD k Ty.zero)).length],.arr 1 ((visN (visNL (stepN l t) (t.kids.take k)) (t.kids.getD k Ty.zero)).map (AVal.int .i64)) ((visN (visNL (stepN l t) (t.kids.take k)) (t.kids.getD k Ty.zero)).map (AVal.int .i64)).length,t.bx,(t.kids.getD k Ty.zero).bx] ?_ ?_
 refine qo ?_ ?_
 refine qy (o_add (a:=((k:Nat):Int)) (b:=1) kq oq oq) ?_ ?_ ?_
 refine qr 1 ?_ ?_
 refine qe ?_ ?_
 refine AThen_normal ⟨k+1,?_,?_,⟨⟨kq,kq,kq,kq,kq,trivial⟩,by simp [BelL,AVal.bel],by simp,(Eq.trans (b:=[u.bx,.box [.own 2 0 (visN (visNL (stepN l t) (t.kids.take k)) (t.kids.getD k Ty.zero)).length],.arr 1 ((visN (visNL (stepN l t) (t.kids.take k)) (t.kids.getD k Ty.zero)).map (AVal.int .i64)) ((visN (visNL (stepN l t) (t.kids.take k)) (t.kids.getD k Ty.zero)).map (AVal.int .i64)).length,t.bx]) kq (by exact congrArg (fun q=>hpN u q++[t.bx]) (visNL_take _ t.kids k oq).symm)),by simp [AObj.belO]⟩⟩
 · omega
 · omega
 iterate 19 kernel_rfl
 refine qf (decide_eq_false hb4) ?_ ?_
 refine wExit 0 kq kq ?_
 refine AThen_exit ?_
 refine AThen_exit ?_
 refine AIn_exit ?_
 refine AThen_normal ?_
 refine qz [(1,.fn (.func 112) [] [.ptr 1 0]),(2,.ptr 3 0)] ?_ ?_
 refine qU 3 [(1,.fn (.func 112) [] [.ptr 1 0]),(2,.ptr 3 0),(25,.bool ((t.kind)==5))] ?_ ?_
 refine qf (beq_eq_false_iff_ne.2 hb1) ?_ ?_
 refine qk ?_ ?_
 refine leafA (l:=[]) (.inl rfl) kq (by simp [awrap]) (by simp [awrap]) (by simp [awrap]) ?_ ?_
 refine Eq.trans (b:=[u.bx,.box [.own 2 0 (visNL (stepN l t) (t.kids.take k)).length],.arr 1 ((visNL (stepN l t) (t.kids.take k)).map (AVal.int .i64)) ((visNL (stepN l t) (t.kids.take k)).map (AVal.int .i64)).length]) kq ?_
 rotate_left
 · simp [AObj.belO,hpN,Ty.v]
 iterate 22 kernel_rfl
 all_goals
  refine congrArg (hpN u) ?_
  first|rw [visN_oth l t aq,List.take_of_length_le oq]|rw [visN_rec l t aq,List.take_of_length_le oq]
end Go.Proofs.YtdikgijfekfaoaaGreatDoor
namespace Go.Proofs.YtdikgijfekfaoaaGreatDoor
open Go.Proofs.YtdikgijfekfaoaaGreatDoor.Abs
set_option maxRecDepth 20000
set_option maxHeartbeats 4000000
noncomputable def c76:Code:=bodyOf Tryz.f76
theorem numbers_spec (t:Ty) (hs:t.sz<100000000):CallsP cx 76 [Ty.v t] (.imm ((visN [] t).map (AVal.int .i64))):=by
 refine func_intro (cx:=cx) 8 0 [(ResultVar.tmp 2)] Tryz.func76 rfl rfl rfl rfl rfl zq ?_
 show wpA cx 8 0 (at_ c76 []) _ _ _
 refine qZ [(0,Ty.v t)] [] ?_ ?_
 refine qW 2 [(1,.ptr 0 0)] [t.bx] ?_ ?_
 refine qW 1 [(1,.ptr 0 0),(3,.ptr 1 0)] [t.bx,.box [.full []]] ?_ ?_
 refine wOwnB 1 0 1 (cs:=[.full []]) [.own 2 0 0] dq kq kq kq ?_
 refine qZ [(1,.ptr 0 0),(3,.ptr 1 0)] [t.bx,.box [.own 2 0 0],.arr 1 (([]:List (Int)).map (AVal.int .i64)) 0] ?_ ?_
 refine qV 2 ?_ ?_
 refine vcallH (args:=[.agg [.int .i64 (t.kind),.str t.name,.int .i64 (t.n),.imm (t.names.map AVal.str),.imm (t.kids.map Ty.enc)],.fn (.func 112) [] [.ptr 1 0]]) (v:=.tup []) (h':=[t.bx,.box [.own 2 0 (visN [] t).length],.arr 1 ((visN [] t).map (AVal.int .i64)) ((visN [] t).map (AVal.int .i64)).length]) [t.bx,.box [.own 2 0 0],.arr 1 (([]:List (Int)).map (AVal.int .i64)) 0] kq kq kq kq kq (visitN_spec t t [] hs (by simp;omega)) ?_
 refine qN [(3,.ptr 1 0)] [t.bx,.box [.own 2 0 (visN [] t).length],.arr 1 ((visN [] t).map (AVal.int .i64)) ((visN [] t).map (AVal.int .i64)).length] ?_ ?_
 refine qU 2 [(2,.own 2 0 (visN [] t).length)] ?_ ?_
 refine wRet kq ?_
 refine leafP (l:=[.own 2 0 (visN [] t).length]) (.inr rfl) kq ?_
 · simp [awrap,AVal.frz,frzL]
 iterate 7 kernel_rfl
theorem cloneS (l:List (List UInt8)) (hl:l.length<1000000000):CallsA cx 84 [.imm (l.map .str)] [] (fun v h=>v=.own 0 0 l.length∧h=[.arr 1 (l.map .str) 0]):=by
  have:=clone84 (l.map .str) [] (rowOk_map (fun _=>rfl) l) (by simp [fits];omega) rfl zq
  simpa using this
theorem cloneK (l:List Ty) (hl:l.length<1000000000):CallsA cx 109 [.imm (l.map Ty.enc)] [] (fun v h=>v=.own 0 0 l.length∧h=[.arr 5 (l.map Ty.enc) 0]):=by
  have:=clone109 (l.map Ty.enc) [] (rowOk_map (fun q=>by rw [Ty.enc_v];rfl) l) (by simp [fits];omega) rfl zq
  simpa using this
theorem set_same (l:List Ty) (k:Nat):l.set k (l.getD k Ty.zero)=l:=by
  by_cases h:k<l.length
  · rw [List.getD_eq_getElem?_getD,List.getElem?_eq_getElem h];exact List.set_getElem_self h
  · exact List.set_eq_of_length_le oq
theorem clone_P' {t:Ty} (h:CallsA cx 67 [t.v] [] (fun v h=>v=recV t∧h=recH t)):CallsP cx 67 [t.v] t.v:=CallsP_post h (by rintro _ _ ⟨rfl,rfl⟩;exact recV_frz t) zq
noncomputable def c67:Code:=bodyOf Tryz.f67
theorem clone_raw (t:Ty) (hs:t.sz<100000000):CallsA cx 67 [Ty.v t] [] (fun v h=>v=recV t∧h=recH t):=by
 induction hN:t.sz using Nat.strongRecOn generalizing t with|_ N ih =>
 have ihC:∀ x:Ty,x.sz<t.sz→CallsP cx 67 [x.v] x.v:=fun x h1=>clone_P' (ih _ (by rw [← hN];exact h1) x (Nat.lt_trans h1 hs) rfl)
 have hz1:=sz_names t
 have hz2:=sz_kids t
 refine func_raw (cx:=cx) 30 0 [(ResultVar.cell 2 25)] Tryz.func67 rfl rfl rfl rfl rfl zq ?_
 show wpA cx 30 0 (at_ c67 []) _ _ _
 refine qZ [(0,Ty.v t)] [] ?_ ?_
 refine qW 2 [(1,.ptr 0 0),(2,.ptr 1 0)] [t.bx,.box zC] ?_ ?_
 refine qSeq ?_ ?_
 refine wDrw cxM kq extThen (dstart ?_)
 refine qu 2 ?_ ?_
 refine dgrow1 (args:=[.imm (t.names.map AVal.str)]) (args':=[.imm (t.names.map AVal.str)]) (V':=.own 2 0 t.names.length) (F:=[t.bx,.box zC]) (G':=[.arr 1 (t.names.map AVal.str) 0]) (L:=[2]) kq kq kq kq kq (cloneS t.names oq) [t.bx,.box zC] kq (by simp [AVal.frz,frzL,AVal.ren,renL,renH,AObj.ren,lendR,frzH,ownsL,AVal.owns]) (by simp [AVal.frz,frzL,AVal.ren,renL,renH,AObj.ren,lendR,frzH,ownsL,AVal.owns]) zq (by simp [AVal.frz,frzL,AVal.ren,renL,renH,AObj.ren,lendR,frzH,ownsL,AVal.owns]) (by simp [AVal.frz,frzL,AVal.ren,renL,renH,AObj.ren,lendR,frzH,ownsL,AVal.owns]) (by simp [AVal.frz,frzL,AVal.ren,renL,renH,AObj.ren,lendR,frzH,ownsL,AVal.owns]) (by simp [growL,ownsL,AVal.owns]) ?_
 refine qu 2 ?_ ?_
 refine dgrow1 (args:=[.imm (t.kids.map Ty.enc)]) (args':=[.imm (t.kids.map Ty.enc)]) (V':=.own 3 0 t.kids.length) (F:=[t.bx,.box zC,.arr 1 (t.names.map AVal.str) 0]) (G':=[.arr 5 (t.kids.map Ty.enc) 0]) (L:=[3]) kq kq kq kq kq (cloneK t.kids oq) [t.bx,.box zC,.arr 1 (t.names.map AVal.str) 0] kq (by simp [AVal.frz,frzL,AVal.ren,renL,renH,AObj.ren,lendR,frzH,ownsL,AVal.owns]) (by simp [AVal.frz,frzL,AVal.ren,renL,renH,AObj.ren,lendR,frzH,ownsL,AVal.owns]) zq (by simp [AVal.frz,frzL,AVal.ren,renL,renH,AObj.ren,lendR,frzH,ownsL,AVal.owns]) (by simp [AVal.frz,frzL,AVal.ren,renL,renH,AObj.ren,lendR,frzH,ownsL,AVal.owns]) (by simp [AVal.frz,frzL,AVal.ren,renL,renH,AObj.ren,lendR,frzH,ownsL,AVal.owns]) (by simp [growL,ownsL,AVal.owns]) ?_
 refine qu 4 ?_ ?_
 refine dend kq ⟨kq,?_⟩
 refine AThen_normal ?_
 refine qZ [(1,.ptr 0 0),(2,.ptr 1 0)] [.box [.int .i64 (t.kind),.str t.name,.int .i64 (t.n),.own 2 0 t.names.length,.own 3 0 t.kids.length],.box zC,.arr 1 (t.names.map AVal.str) 0,.arr 5 (t.kids.map Ty.enc) 0] ?_ ?_
 refine wFrzC 0 3 2 (cs:=[.int .i64 (t.kind),.str t.name,.int .i64 (t.n),.own 2 0 t.names.length,.own 3 0 t.kids.length]) (es:=(t.names.map AVal.str)) (off:=0) (len:=t.names.length) (sz:=1) (fr:=0) [.int .i64 (t.kind),.str t.name,.int .i64 (t.n),.imm (t.names.map AVal.str),.own 3 0 t.kids.length] (t.names.map AVal.str) dq kq kq kq zq kq kq ?_
 refine qZ [(1,.ptr 0 0),(2,.ptr 1 0)] [.box [.int .i64 (t.kind),.str t.name,.int .i64 (t.n),.imm (t.names.map AVal.str),.own 3 0 t.kids.length],.box zC,.arr 1 (t.names.map AVal.str) (t.names.map AVal.str).length,.arr 5 (t.kids.map Ty.enc) 0] ?_ ?_
 refine qSeq ?_ ?_
 refine qV 2 ?_ ?_
 refine qy (o_lenown (o:=3) (off:=0) (len:=t.kids.length) (sz:=5) (es:=(t.kids.map Ty.enc)) (fr:=0) kq ty23 kq zq) ?_ ?_ ?_
 refine qR 1 [(1,.ptr 0 0),(2,.ptr 1 0),(14,nI t.kids.length),(15,.int .i64 0)] [.box [.int .i64 (t.kind),.str t.name,.int .i64 (t.n),.imm (t.names.map AVal.str),.own 3 0 t.kids.length],.box zC,.arr 1 (t.names.map AVal.str) (t.names.map AVal.str).length,.arr 5 (t.kids.map Ty.enc) 0] ?_ ?_
 refine qB 0 ?_ ?_ ?_
 refine wLoop (σ:=Nat) (fun k=>[(1,.ptr 0 0),(2,.ptr 1 0),(14,.int .i64 ((t.kids.length:Nat):Int)),(15,.int .i64 ((k:Nat):Int))]) (fun k=>[.box [.int .i64 (t.kind),.str t.name,.int .i64 (t.n),.imm (t.names.map AVal.str),.own 3 0 t.kids.length],.box zC,.arr 1 (t.names.map AVal.str) (t.names.map AVal.str).length,.arr 5 (t.kids.map Ty.enc) 0]) (fun k=>k≤t.kids.length) (fun k=>t.kids.length - k) 0 kq (by exact Nat.zero_le _) ⟨⟨kq,kq,kq,kq,trivial⟩,by simp [BelL,AVal.bel],by simp,kq,by simp [AObj.belO]⟩ ?_
 rintro k hk
 refine qW 1 [(1,.ptr 0 0),(2,.ptr 1 0),(14,nI t.kids.length),(15,nI k),(16,.bool (decide (((k:Nat):Int)<((t.kids.length:Nat):Int))))] [.box [.int .i64 (t.kind),.str t.name,.int .i64 (t.n),.imm (t.names.map AVal.str),.own 3 0 t.kids.length],.box zC,.arr 1 (t.names.map AVal.str) (t.names.map AVal.str).length,.arr 5 (t.kids.map Ty.enc) 0] ?_ ?_
 refine qSeq ?_ ?_
 by_cases hb1:((k:Nat):Int)<((t.kids.length:Nat):Int)
 refine qt (decide_eq_true hb1) ?_ ?_
 refine qK ?_ ?_
 refine qz [(1,.ptr 0 0),(2,.ptr 1 0),(14,nI t.kids.length),(15,nI k)] ?_ ?_
 refine qSeq ?_ ?_
 refine qB 1 ?_ ?_ ?_
 refine qU 2 [(1,.ptr 0 0),(2,.ptr 1 0),(3,nI k),(14,nI t.kids.length),(15,nI k)] ?_ ?_
 refine wDrw cxM kq (extIn extThen) (dstart ?_)
 refine qu 6 ?_ ?_
 refine qd (o_ixown (k:=.i64) (i:=((k:Nat):Int)) (o:=3) (off:=0) (len:=t.kids.length) (sz:=5) (fr:=0) (es:=(t.kids.map Ty.enc)) kq ty23 ty25 kq rfl zq oq oq) ?_ ?_ ?_ ?_
 refine qd (o_ldown (t:=25) (o:=3) (idx:=(0+k)) (off:=0) (k:=((t.kids.map Ty.enc).length)) (sz:=5) (fr:=0) (es:=(t.kids.map Ty.enc)) (x:=Ty.enc (t.kids.getD (0+k) Ty.zero)) (v:=.agg [.int .i64 ((t.kids.getD (0+k) Ty.zero).kind),.str (t.kids.getD (0+k) Ty.zero).name,.int .i64 ((t.kids.getD (0+k) Ty.zero).n),.imm ((t.kids.getD (0+k) Ty.zero).names.map AVal.str),.imm ((t.kids.getD (0+k) Ty.zero).kids.map Ty.enc)]) kq kq zq (get_map _ _ _ _ oq) (by rw [ty_cells];exact kq)) ?_ ?_ ?_ ?_
 refine dcallP (args:=[.agg [.int .i64 ((t.kids.getD (0+k) Ty.zero).kind),.str (t.kids.getD (0+k) Ty.zero).name,.int .i64 ((t.kids.getD (0+k) Ty.zero).n),.imm ((t.kids.getD (0+k) Ty.zero).names.map AVal.str),.imm ((t.kids.getD (0+k) Ty.zero).kids.map Ty.enc)]]) kq kq kq kq kq (ihC (t.kids.getD (0+k) Ty.zero) (sz_kid t _ oq)) (by intro _;simp [Ty.v,frzL_app,Occ.v]) (by simp [Ty.v]) (by simp [Ty.v,ownsL_app]) ?_
 refine qd (o_ixown (k:=.i64) (i:=((k:Nat):Int)) (o:=3) (off:=0) (len:=t.kids.length) (sz:=5) (fr:=0) (es:=(t.kids.map Ty.enc)) kq ty23 ty25 kq rfl zq oq oq) ?_ ?_ ?_ ?_
 refine qD (o_stmap (o:=3) (k:=((t.kids.map Ty.enc).length)) (x:=Ty.v (t.kids.getD (0+k) Ty.zero)) (enc:=Ty.enc) (l:=t.kids) (X:=(t.kids.getD (0+k) Ty.zero)) (d:=Ty.zero) (idx:=(0+k)) (sz:=5) kq (Ty.enc_v (t.kids.getD (0+k) Ty.zero)).symm kq zq oq ty25 ty_ok2 ty_with) ?_ ?_ ?_ ?_
 refine dend kq ⟨kq,?_⟩
 refine AIn_normal ?_
 refine AThen_normal ?_
 refine qZ [(1,.ptr 0 0),(2,.ptr 1 0),(14,nI t.kids.length),(15,nI k)] [.box [.int .i64 (t.kind),.str t.name,.int .i64 (t.n),.imm (t.names.map AVal.str),.own 3 0 t.kids.length],.box zC,.arr 1 (t.names.map AVal.str) (t.names.map AVal.str).length,.arr 5 ((t.kids.set (0+k) (t.kids.getD (0+k) Ty.zero)).map Ty.enc) 0] ?_ ?_
 refine qo ?_ ?_
 refine qy (o_add (a:=((k:Nat):Int)) (b:=1) kq oq oq) ?_ ?_ ?_
 refine qr 1 ?_ ?_
 refine qe ?_ ?_
 refine AThen_normal ⟨k+1,?_,?_,⟨⟨kq,kq,kq,kq,trivial⟩,by simp [BelL,AVal.bel],by simp,(Eq.trans (b:=[.box [.int .i64 (t.kind),.str t.name,.int .i64 (t.n),.imm (t.names.map AVal.str),.own 3 0 t.kids.length],.box zC,.arr 1 (t.names.map AVal.str) (t.names.map AVal.str).length,.arr 5 ((t.kids.set (0+k) (t.kids.getD (0+k) Ty.zero)).map Ty.enc) 0]) kq (by rw [set_same])),by simp [AObj.belO]⟩⟩
 · omega
 · omega
 iterate 26 kernel_rfl
 refine qf (decide_eq_false hb1) ?_ ?_
 refine wExit 0 kq kq ?_
 refine AThen_exit ?_
 refine AThen_exit ?_
 refine AIn_exit ?_
 refine AThen_normal ?_
 refine qz [(1,.ptr 0 0),(2,.ptr 1 0)] ?_ ?_
 refine qW 2 [(2,.ptr 1 0)] [.box [.int .i64 (t.kind),.str t.name,.int .i64 (t.n),.imm (t.names.map AVal.str),.own 3 0 t.kids.length],.box [.int .i64 (t.kind),.str t.name,.int .i64 (t.n),.imm (t.names.map AVal.str),.own 3 0 t.kids.length],.arr 1 (t.names.map AVal.str) (t.names.map AVal.str).length,.arr 5 (t.kids.map Ty.enc) 0] ?_ ?_
 refine wRen [3,1] [(2,.ptr 1 0)] [.arr 5 (t.kids.map Ty.enc) 0,.box [.int .i64 (t.kind),.str t.name,.int .i64 (t.n),.imm (t.names.map AVal.str),.own 0 0 t.kids.length]] dq (by simp [-List.map_append,-List.map_take,-List.map_drop,-List.append_assoc,AVal.refs,refsL,AObj.refs,AObj.isIter,objOk,Abs.renT,keepH,renO,AObj.ren,AVal.ren,renL,List.idxOf_cons]) (by simp [-List.map_append,-List.map_take,-List.map_drop,-List.append_assoc,AVal.refs,refsL,AObj.refs,AObj.isIter,objOk,Abs.renT,keepH,renO,AObj.ren,AVal.ren,renL,List.idxOf_cons]) (by simp [-List.map_append,-List.map_take,-List.map_drop,-List.append_assoc,AVal.refs,refsL,AObj.refs,AObj.isIter,objOk,Abs.renT,keepH,renO,AObj.ren,AVal.ren,renL,List.idxOf_cons]) (by simp [-List.map_append,-List.map_take,-List.map_drop,-List.append_assoc,AVal.refs,refsL,AObj.refs,AObj.isIter,objOk,Abs.renT,keepH,renO,AObj.ren,AVal.ren,renL,List.idxOf_cons]) ?_
 refine qZ [(2,.ptr 1 0)] [.arr 5 (t.kids.map Ty.enc) 0,.box [.int .i64 (t.kind),.str t.name,.int .i64 (t.n),.imm (t.names.map AVal.str),.own 0 0 t.kids.length]] ?_ ?_
 refine wRet kq ?_
 refine leafR (l:=[.agg [.int .i64 (t.kind),.str t.name,.int .i64 (t.n),.imm (t.names.map AVal.str),.own 0 0 t.kids.length]]) 1 [.arr 5 (t.kids.map Ty.enc) 0] (.inr rfl) kq (Nat.zero_le _) kq (by simp [awrap,-List.map_append,-List.map_take,-List.map_drop,-List.append_assoc]) (by simp [AObj.belO,-List.map_append,-List.map_take,-List.map_drop,-List.append_assoc]) ?_
 · exact ⟨rfl,rfl⟩
 iterate 21 kernel_rfl
theorem clone_spec (t:Ty) (hs:t.sz<100000000):CallsP cx 67 [t.v] t.v:=clone_P' (clone_raw t hs)
mutual
def renT (f:Int→Int):Ty→Ty
  | .mk k x n l ks=>.mk k x (if isV k n=true then f n else n) l (renTL f ks)
def renTL (f:Int→Int):List Ty→List Ty
  | []=>[]
  | t::l=>renT f t::renTL f l
end
def rkL (f:Int→Int) (ks:List Ty) (k:Nat):List Ty:=(ks.take k).map (renT f)++ks.drop k
@[simp] theorem rkL_len (f:Int→Int) (ks:List Ty) (k:Nat):(rkL f ks k).length=ks.length:=by simp [rkL];omega
abbrev At:=List (Int×Int)
@[simp] theorem encM_at (k:Nat) (l:At):((encM (AVal.int .i64) (AVal.int .i64) l).all fun e=>e.1.bel k && e.2.bel k)=true:=by
  simp [encM,List.all_eq_true]
end Go.Proofs.YtdikgijfekfaoaaGreatDoor
namespace Go.Proofs.YtdikgijfekfaoaaGreatDoor
open Go.Proofs.YtdikgijfekfaoaaGreatDoor.Abs
set_option maxRecDepth 20000
set_option maxHeartbeats 4000000
theorem take_at {α:Type} (l:List α) (k:Nat) (d:α) (h:k<l.length):l.take (k+1)=l.take k++[l.getD k d]:=by
  rw [List.take_succ_eq_append_getElem h,List.getD_eq_getElem?_getD,List.getElem?_eq_getElem h];rfl
end Go.Proofs.YtdikgijfekfaoaaGreatDoor
namespace Go.Proofs.YtdikgijfekfaoaaGreatDoor
open Go.Proofs.YtdikgijfekfaoaaGreatDoor.Abs
def occN (t:Ty):List Int:=(occs t).map Occ.n
theorem mem_addN {F:List Int} {n m:Int}:m∈addN F n↔m∈F∨m=n:=by
  unfold addN
  split
  · rename_i h
    rw [List.contains_iff_mem] at h
    exact ⟨.inl,fun h'=>h'.elim id (fun e=>e▸h)⟩
  · simp
theorem mem_fold {m:Int}:∀ (xs F:List Int),m∈xs.foldl addN F↔m∈F∨m∈xs
  | [],F=>by simp
  | x::xs,F=>by rw [List.foldl_cons,mem_fold xs,mem_addN,List.mem_cons,or_assoc]
end Go.Proofs.YtdikgijfekfaoaaGreatDoor
namespace Go.Proofs.YtdikgijfekfaoaaGreatDoor
open Go.Proofs.YtdikgijfekfaoaaGreatDoor.Abs
set_option maxRecDepth 20000
set_option maxHeartbeats 4000000
mutual
theorem beq_refl:∀ a:Ty,a.beq a=true
  | .mk k x n l ks=>by
    rw [Ty.beq];simp [beqL_refl ks]
theorem beqL_refl:∀ a:List Ty,Ty.beqL a a=true
  | []=>rfl
  | x::a=>by
    simp only [Ty.beqL,Bool.and_eq_true]
    exact ⟨beq_refl x,beqL_refl a⟩
end
end Go.Proofs.YtdikgijfekfaoaaGreatDoor
namespace Go.Proofs.YtdikgijfekfaoaaGreatDoor
open Go.Proofs.YtdikgijfekfaoaaGreatDoor.Abs
set_option maxRecDepth 20000
set_option maxHeartbeats 4000000
structure Vr where
  row:Bool
  lv:Int
  bd:Bool
  val:Ty
  names:List (List UInt8)
def Vr.v (x:Vr):AVal:=.agg [.bool x.row,.int .i64 x.lv,.bool x.bd,.int .i64 x.val.kind,.str x.val.name,.int .i64 x.val.n,.imm (x.val.names.map .str),.imm (x.val.kids.map Ty.enc),.imm (x.names.map .str)]
def Vr.zero:Vr:=⟨false,0,false,Ty.zero,[]⟩
abbrev St:=List (Int×Vr)
abbrev mS (m:St):AObj:=.map (encM (AVal.int .i64) Vr.v m)
abbrev bS (lv:Int):AObj:=.box [.int .i64 lv,.map 1]
@[simp] theorem encM_st (k:Nat) (l:St):((encM (AVal.int .i64) Vr.v l).all fun e=>e.1.bel k && e.2.bel k)=true:=by
  simp [encM,Vr.v,List.all_eq_true]
def stSm (m:St):Prop:=∀ n x,mget n m=some x→x.names.length<100000000
def vOk (m:St) (t:Ty):Bool:=if isV t.kind t.n=true then (match mget t.n m with
  | none=>false
  | some x=>(x.row==(t.kind==5)) && (!x.row || x.names==t.names)) else true
mutual
def vAll (m:St):Ty→Bool
  | .mk k x n l ks=>vOk m (.mk k x n l ks) && vAllL m ks
def vAllL (m:St):List Ty→Bool
  | []=>true
  | t::l=>vAll m t && vAllL m l
end
theorem vAll_eq (m:St) (t:Ty):vAll m t=(vOk m t && vAllL m t.kids):=by cases t;rfl
theorem vAllL_all (m:St):∀ l,vAllL m l=l.all (vAll m)
  | []=>rfl
  | t::l=>by rw [vAllL,vAllL_all m l,List.all_cons]
theorem vAllL_take (m:St) (l:List Ty) (k:Nat) (h:k<l.length):vAllL m (l.take (k+1))=(vAllL m (l.take k) && vAll m (l.getD k Ty.zero)):=by
  rw [take_snocT l k h,vAllL_all,vAllL_all,List.all_append];simp
def hasB (m:St) (t:Ty):Bool:=validB t && vAll m t
def hpS (lv:Int) (m:St):AHeap:=[bS lv,mS m]
def hpH (lv:Int) (m:St) (u:Ty) (b:Bool):AHeap:=[bS lv,mS m,.box [.ptr 0 0],u.bx,.box [.bool b]]
theorem vOk_0 {m:St} {t:Ty} (h:¬ isV t.kind t.n=true):vOk m t=true:=by rw [vOk,if_neg h]
theorem vOk_n {m:St} {t:Ty} (h:isV t.kind t.n=true) (hm:mget t.n m=none):vOk m t=false:=by rw [vOk,if_pos h,hm]
theorem vOk_s {m:St} {t:Ty} {x:Vr} (h:isV t.kind t.n=true) (hm:mget t.n m=some x):vOk m t=((x.row==(t.kind==5)) && (!x.row || x.names==t.names)):=by rw [vOk,if_pos h,hm]
noncomputable def c103:Code:=bodyOf Tryz.f103
theorem has1_spec (t u:Ty) (lv:Int) (m:St) (b:Bool) (hs:t.sz<100000000) (hm:stSm m):CallsA cx 103 [Ty.v t,.ptr 2 0,.ptr 4 0] (hpH lv m u b) (fun v h=>v=(.tup [])∧h=hpH lv m u (b && vOk m t)):=by
 have hz1:=sz_names t
 refine func_intro (cx:=cx) 43 5 [] Tryz.func103 rfl rfl rfl rfl rfl zq ?_
 show wpA cx 43 5 (at_ c103 []) _ _ _
 refine qZ [(0,Ty.v t),(1,.ptr 2 0),(2,.ptr 4 0)] [bS lv,mS m,.box [.ptr 0 0],u.bx,.box [.bool (b)]] ?_ ?_
 refine qW 1 [(1,.ptr 2 0),(2,.ptr 4 0),(3,.ptr 5 0)] [bS lv,mS m,.box [.ptr 0 0],u.bx,.box [.bool (b)],t.bx] ?_ ?_
 refine qSeq ?_ ?_
 refine qV 1 ?_ ?_
 refine vcallH (args:=[.agg [.int .i64 (t.kind),.str t.name,.int .i64 (t.n),.imm (t.names.map AVal.str),.imm (t.kids.map Ty.enc)]]) (v:=.bool (isV (t.kind) (t.n))) (h':=[bS lv,mS m,.box [.ptr 0 0],u.bx,.box [.bool (b)],t.bx]) [bS lv,mS m,.box [.ptr 0 0],u.bx,.box [.bool (b)],t.bx] kq kq kq kq kq (CallsA_head (vars_any (t.kind) (t.n) t.name) rfl rfl rfl) ?_
 refine qR 1 [(1,.ptr 2 0),(2,.ptr 4 0),(3,.ptr 5 0),(8,.bool (!(isV (t.kind) (t.n))))] [bS lv,mS m,.box [.ptr 0 0],u.bx,.box [.bool (b)],t.bx] ?_ ?_
 by_cases hb1:(isV (t.kind) (t.n))=true
 refine qf (x:=(!(isV (t.kind) (t.n)))) (congrArg not (hb1)) ?_ ?_
 refine qK ?_ ?_
 refine qz [(1,.ptr 2 0),(2,.ptr 4 0),(3,.ptr 5 0)] ?_ ?_
 refine qSeq ?_ ?_
 refine wDrw cxM kq extThen (dstart ?_)
 refine qu 6 ?_ ?_
 rcases hm2:mget (t.n) m with _|x2
 refine qd (o_lookN (ok:=true) (o:=1) (ek:=(AVal.int .i64)) (ev:=Vr.v) (l:=m) (k:=(t.n)) keyI hm2 kq ty88 ty3 rfl ty93 kq) ?_ ?_ ?_ ?_
 refine qu 6 ?_ ?_
 refine dend kq ⟨kq,?_⟩
 refine AThen_normal ?_
 refine qZ [(2,.ptr 4 0),(3,.ptr 5 0),(4,.ptr 6 0),(5,.bool false)] [bS lv,mS m,.box [.ptr 0 0],u.bx,.box [.bool (b)],t.bx,.box [.bool false,.int .i64 0,.bool false,.int .i64 0,.str [],.int .i64 0,.full [],.full [],.full []]] ?_ ?_
 refine qo ?_ ?_
 refine qr 2 ?_ ?_
 by_cases hb3:(b)=true
 refine vset 19 (.bool (b)) (.bool true) (extO extFin) kq (congrArg AVal.bool (hb3)) ?_
 refine vset 20 (.bool (b)) (.bool true) (extO extFin) kq (congrArg AVal.bool (hb3)) ?_
 refine qr 23 ?_ ?_
 refine qe ?_ ?_
 refine leafA (l:=[]) (.inl rfl) kq (by simp [awrap]) (by simp [awrap]) (by simp [awrap]) ?_ ?_
 refine Eq.trans (b:=[bS lv,mS m,.box [.ptr 0 0],u.bx,.box [.bool false]]) kq ?_
 rotate_left
 · simp [AObj.belO,hpH,Ty.v]
 iterate 2 kernel_rfl
 refine vset 19 (.bool (b)) (.bool false) (extO extFin) kq (congrArg AVal.bool (Bool.eq_false_iff.2 hb3)) ?_
 refine vset 20 (.bool (b)) (.bool false) (extO extFin) kq (congrArg AVal.bool (Bool.eq_false_iff.2 hb3)) ?_
 refine qr 23 ?_ ?_
 refine qe ?_ ?_
 refine leafA (l:=[]) (.inl rfl) kq (by simp [awrap]) (by simp [awrap]) (by simp [awrap]) ?_ ?_
 refine Eq.trans (b:=[bS lv,mS m,.box [.ptr 0 0],u.bx,.box [.bool false]]) kq ?_
 rotate_left
 · simp [AObj.belO,hpH,Ty.v]
 iterate 9 kernel_rfl
 refine qd (o_lookS (ok:=true) (o:=1) (ek:=(AVal.int .i64)) (ev:=Vr.v) (l:=m) (k:=(t.n)) (x:=x2) keyI hm2 kq ty88 ty3 rfl ty93 kq) ?_ ?_ ?_ ?_
 refine qu 6 ?_ ?_
 refine dend kq ⟨kq,?_⟩
 refine AThen_normal ?_
 refine qZ [(2,.ptr 4 0),(3,.ptr 5 0),(4,.ptr 6 0),(5,.bool true)] [bS lv,mS m,.box [.ptr 0 0],u.bx,.box [.bool (b)],t.bx,.box [.bool (x2.row),.int .i64 (x2.lv),.bool (x2.bd),.int .i64 (x2.val.kind),.str x2.val.name,.int .i64 (x2.val.n),.imm (x2.val.names.map AVal.str),.imm (x2.val.kids.map Ty.enc),.imm (x2.names.map AVal.str)]] ?_ ?_
 refine qo ?_ ?_
 refine qr 2 ?_ ?_
 by_cases hb4:(b)=true
 refine vset 19 (.bool (b)) (.bool true) (extO extFin) kq (congrArg AVal.bool (hb4)) ?_
 refine vset 20 (.bool (b)) (.bool true) (extO extFin) kq (congrArg AVal.bool (hb4)) ?_
 refine qr 11 ?_ ?_
 by_cases hb5:((x2.row)==((t.kind)==5))=true
 refine vset 29 (.bool ((x2.row)==((t.kind)==5))) (.bool true) (extO extFin) kq (congrArg AVal.bool (hb5)) ?_
 refine vset 30 (.bool ((x2.row)==((t.kind)==5))) (.bool true) (extO extFin) kq (congrArg AVal.bool (hb5)) ?_
 refine vset 31 (.bool ((x2.row)==((t.kind)==5))) (.bool true) (extO extFin) kq (congrArg AVal.bool (hb5)) ?_
 refine qr 4 ?_ ?_
 by_cases hb6:(x2.row)=true
 refine vset 34 (.bool (!(x2.row))) (.bool false) (extO extFin) kq (congrArg AVal.bool (congrArg not (hb6))) ?_
 refine vset 35 (.bool (!(x2.row))) (.bool false) (extO extFin) kq (congrArg AVal.bool (congrArg not (hb6))) ?_
 refine qr 4 ?_ ?_
 refine vcallP (args:=[.imm (x2.names.map AVal.str),.imm (t.names.map AVal.str)]) kq kq kq kq (slEqual_spec x2.names t.names (by have:=hm _ _ aq;omega)) (by simp [Ty.v,frzL_app,Occ.v]) (by simp [Ty.v]) (by simp [Ty.v,ownsL_app]) ?_
 refine qr 3 ?_ ?_
 refine qe ?_ ?_
 refine leafA (l:=[]) (.inl rfl) kq (by simp [awrap]) (by simp [awrap]) (by simp [awrap]) ?_ ?_
 refine Eq.trans (b:=[bS lv,mS m,.box [.ptr 0 0],u.bx,.box [.bool (x2.names==t.names)]]) kq ?_
 rotate_left
 · simp [AObj.belO,hpH,Ty.v]
 iterate 3 kernel_rfl
 refine vset 34 (.bool (!(x2.row))) (.bool true) (extO extFin) kq (congrArg AVal.bool (congrArg not (Bool.eq_false_iff.2 hb6))) ?_
 refine vset 35 (.bool (!(x2.row))) (.bool true) (extO extFin) kq (congrArg AVal.bool (congrArg not (Bool.eq_false_iff.2 hb6))) ?_
 refine qr 8 ?_ ?_
 refine qe ?_ ?_
 refine leafA (l:=[]) (.inl rfl) kq (by simp [awrap]) (by simp [awrap]) (by simp [awrap]) ?_ ?_
 refine Eq.trans (b:=[bS lv,mS m,.box [.ptr 0 0],u.bx,.box [.bool true]]) kq ?_
 rotate_left
 · simp [AObj.belO,hpH,Ty.v]
 iterate 3 kernel_rfl
 refine vset 29 (.bool ((x2.row)==((t.kind)==5))) (.bool false) (extO extFin) kq (congrArg AVal.bool (Bool.eq_false_iff.2 hb5)) ?_
 refine vset 30 (.bool ((x2.row)==((t.kind)==5))) (.bool false) (extO extFin) kq (congrArg AVal.bool (Bool.eq_false_iff.2 hb5)) ?_
 refine vset 31 (.bool ((x2.row)==((t.kind)==5))) (.bool false) (extO extFin) kq (congrArg AVal.bool (Bool.eq_false_iff.2 hb5)) ?_
 refine qr 12 ?_ ?_
 refine qe ?_ ?_
 refine leafA (l:=[]) (.inl rfl) kq (by simp [awrap]) (by simp [awrap]) (by simp [awrap]) ?_ ?_
 refine Eq.trans (b:=[bS lv,mS m,.box [.ptr 0 0],u.bx,.box [.bool false]]) kq ?_
 rotate_left
 · simp [AObj.belO,hpH,Ty.v]
 iterate 3 kernel_rfl
 refine vset 19 (.bool (b)) (.bool false) (extO extFin) kq (congrArg AVal.bool (Bool.eq_false_iff.2 hb4)) ?_
 refine vset 20 (.bool (b)) (.bool false) (extO extFin) kq (congrArg AVal.bool (Bool.eq_false_iff.2 hb4)) ?_
 refine qr 23 ?_ ?_
 refine qe ?_ ?_
 refine leafA (l:=[]) (.inl rfl) kq (by simp [awrap]) (by simp [awrap]) (by simp [awrap]) ?_ ?_
 refine Eq.trans (b:=[bS lv,mS m,.box [.ptr 0 0],u.bx,.box [.bool false]]) kq ?_
 rotate_left
 · simp [AObj.belO,hpH,Ty.v]
 iterate 14 kernel_rfl
 refine qt (x:=(!(isV (t.kind) (t.n)))) (congrArg not (Bool.eq_false_iff.2 hb1)) ?_ ?_
 refine wRet kq ?_
 apply aR
 refine leafA (l:=[]) (.inr rfl) kq (by simp [awrap]) (by simp [awrap]) (by simp [awrap]) ?_ ?_
 refine Eq.trans (b:=[bS lv,mS m,.box [.ptr 0 0],u.bx,.box [.bool (b)]]) kq ?_
 rotate_left
 · simp [AObj.belO,hpH,Ty.v]
 iterate 6 kernel_rfl
 all_goals
  refine congrArg (hpH lv m u) ?_
  first|(rw [vOk_0 aq,Bool.and_true];done)|(rw [vOk_n aq aq,Bool.and_false];done)|(rw [vOk_s aq aq];cases b <;> simp_all;done)|(rw [vOk_s aq aq];simp_all;done)
theorem visitH_spec (t u:Ty) (lv:Int) (m:St) (b:Bool) (hs:t.sz<100000000) (hm:stSm m):CallsA cx 54 [Ty.v t,.fn (.func 103) [] [.ptr 2 0,.ptr 4 0]] (hpH lv m u b) (fun v h=>v=(.tup [])∧h=hpH lv m u (b && vAll m t)):=by
 induction hN:t.sz using Nat.strongRecOn generalizing t u b with|_ N ih =>
 have ihV:∀ (t' u:Ty) (b:Bool),t'.sz<t.sz→CallsA cx 54 [t'.v,.fn (.func 103) [] [.ptr 2 0,.ptr 4 0]] (hpH lv m u b) (fun v h=>v=.tup []∧h=hpH lv m u (b && vAll m t')):=fun t' u b h1=>ih _ (by rw [← hN];exact h1) t' u b oq rfl
 have hz2:=sz_kids t
 refine func_intro (cx:=cx) 29 5 [] Tryz.func54 rfl rfl rfl rfl rfl zq ?_
 show wpA cx 29 5 (at_ c54 []) _ _ _
 refine qZ [(0,Ty.v t),(1,.fn (.func 103) [] [.ptr 2 0,.ptr 4 0])] [bS lv,mS m,.box [.ptr 0 0],u.bx,.box [.bool (b)]] ?_ ?_
 refine qW 1 [(1,.fn (.func 103) [] [.ptr 2 0,.ptr 4 0]),(2,.ptr 5 0)] [bS lv,mS m,.box [.ptr 0 0],u.bx,.box [.bool (b)],t.bx] ?_ ?_
 refine qSeq ?_ ?_
 refine qU 3 [(1,.fn (.func 103) [] [.ptr 2 0,.ptr 4 0]),(2,.ptr 5 0),(8,.bool ((t.kind) != 5))] ?_ ?_
 by_cases hb1:(t.kind)=5
 refine qf (x:=((t.kind) != 5)) (bne_eq_false_iff_eq.2 hb1) ?_ ?_
 refine qK ?_ ?_
 refine qz [(1,.fn (.func 103) [] [.ptr 2 0,.ptr 4 0]),(2,.ptr 5 0)] ?_ ?_
 refine qSeq ?_ ?_
 refine qV 2 ?_ ?_
 refine qy (o_lenmap (l:=t.kids) (enc:=Ty.enc) kq ty23) ?_ ?_ ?_
 refine qR 1 [(1,.fn (.func 103) [] [.ptr 2 0,.ptr 4 0]),(2,.ptr 5 0),(13,.imm (t.kids.map Ty.enc)),(14,nI t.kids.length),(15,.int .i64 0)] [bS lv,mS m,.box [.ptr 0 0],u.bx,.box [.bool (b)],t.bx] ?_ ?_
 refine qB 0 ?_ ?_ ?_
 refine wLoop (σ:=Nat) (fun k=>[(1,.fn (.func 103) [] [.ptr 2 0,.ptr 4 0]),(2,.ptr 5 0),(13,.imm (t.kids.map Ty.enc)),(14,.int .i64 ((t.kids.length:Nat):Int)),(15,.int .i64 ((k:Nat):Int))]) (fun k=>[bS lv,mS m,.box [.ptr 0 0],u.bx,.box [.bool ((b) && vAllL m (t.kids.take k))],t.bx]) (fun k=>k≤t.kids.length) (fun k=>t.kids.length - k) 0 kq (by exact Nat.zero_le _) ⟨⟨kq,kq,kq,kq,kq,trivial⟩,by simp [BelL,AVal.bel],by simp,(Eq.trans (b:=[bS lv,mS m,.box [.ptr 0 0],u.bx,.box [.bool (b)],t.bx]) kq (by simp [vAllL])),by simp [AObj.belO]⟩ ?_
 rintro k hk
 refine qW 1 [(1,.fn (.func 103) [] [.ptr 2 0,.ptr 4 0]),(2,.ptr 5 0),(13,.imm (t.kids.map Ty.enc)),(14,nI t.kids.length),(15,nI k),(16,.bool (decide (((k:Nat):Int)<((t.kids.length:Nat):Int))))] [bS lv,mS m,.box [.ptr 0 0],u.bx,.box [.bool ((b) && vAllL m (t.kids.take k))],t.bx] ?_ ?_
 refine qSeq ?_ ?_
 by_cases hb2:((k:Nat):Int)<((t.kids.length:Nat):Int)
 refine qt (decide_eq_true hb2) ?_ ?_
 refine qK ?_ ?_
 refine qz [(1,.fn (.func 103) [] [.ptr 2 0,.ptr 4 0]),(2,.ptr 5 0),(13,.imm (t.kids.map Ty.enc)),(14,nI t.kids.length),(15,nI k)] ?_ ?_
 refine qSeq ?_ ?_
 refine qB 1 ?_ ?_ ?_
 refine qO ?_ ?_
 refine qy ((o_ixmap (k:=.i64) (l:=t.kids) (enc:=Ty.enc) (i:=((k:Nat):Int)) Ty.zero kq ty23 ty25 ty_size oq oq).trans (congrArg (fun cs=>some (AVal.pimm cs 0,_)) (ty_cells (t.kids.getD k Ty.zero)))) ?_ ?_ ?_
 refine qR 3 [(1,.fn (.func 103) [] [.ptr 2 0,.ptr 4 0]),(2,.ptr 5 0),(5,.ptr 6 0),(13,.imm (t.kids.map Ty.enc)),(14,nI t.kids.length),(15,nI k)] [bS lv,mS m,.box [.ptr 0 0],u.bx,.box [.bool ((b) && vAllL m (t.kids.take k))],t.bx,(t.kids.getD k Ty.zero).bx] ?_ ?_
 refine qo ?_ ?_
 refine qr 2 ?_ ?_
 refine vcallA (args:=[.agg [.int .i64 ((t.kids.getD k Ty.zero).kind),.str (t.kids.getD k Ty.zero).name,.int .i64 ((t.kids.getD k Ty.zero).n),.imm ((t.kids.getD k Ty.zero).names.map AVal.str),.imm ((t.kids.getD k Ty.zero).kids.map Ty.enc)],.fn (.func 103) [] [.ptr 2 0,.ptr 4 0]]) (hs:=[bS lv,mS m,.box [.ptr 0 0],u.bx,.box [.bool ((b) && vAllL m (t.kids.take k))]]) (hs':=[.box [.int .i64 ((lv)),.map 1],mS m,.box [.ptr 0 0],u.bx,.box [.bool ((((b) && vAllL m (t.kids.take k)) && vAll m (t.kids.getD k Ty.zero)))]]) (rest:=[t.bx,(t.kids.getD k Ty.zero).bx]) kq kq kq kq kq (ihV (t.kids.getD k Ty.zero) u ((b) && vAllL m (t.kids.take k)) (sz_kid t k oq)) (by simp [AObj.belO,hpH,Ty.v]) (by simp [AObj.belO,hpH,Ty.v]) rfl (by simp [AObj.belO,hpH,Ty.v]) (by simp [AObj.belO,hpH,Ty.v]) kq ?_
 refine qe ?_ ?_
 refine AIn_normal ?_
 refine AThen_normal ?_
 refine qZ [(1,.fn (.func 103) [] [.ptr 2 0,.ptr 4 0]),(2,.ptr 5 0),(13,.imm (t.kids.map Ty.enc)),(14,nI t.kids.length),(15,nI k)] [.box [.int .i64 ((lv)),.map 1],mS m,.box [.ptr 0 0],u.bx,.box [.bool ((((b) && vAllL m (t.kids.take k)) && vAll m (t.kids.getD k Ty.zero)))],t.bx,(t.kids.getD k Ty.zero).bx] ?_ ?_
 refine qo ?_ ?_
 refine qy (o_add (a:=((k:Nat):Int)) (b:=1) kq oq oq) ?_ ?_ ?_
 refine qr 1 ?_ ?_
 refine qe ?_ ?_
 refine AThen_normal ⟨k+1,?_,?_,⟨⟨kq,kq,kq,kq,kq,trivial⟩,by simp [BelL,AVal.bel],by simp,(Eq.trans (b:=[.box [.int .i64 ((lv)),.map 1],mS m,.box [.ptr 0 0],u.bx,.box [.bool ((((b) && vAllL m (t.kids.take k)) && vAll m (t.kids.getD k Ty.zero)))],t.bx]) kq (by rw [vAllL_take m t.kids k oq,Bool.and_assoc])),by simp [AObj.belO]⟩⟩
 · omega
 · omega
 iterate 19 kernel_rfl
 refine qf (decide_eq_false hb2) ?_ ?_
 refine wExit 0 kq kq ?_
 refine AThen_exit ?_
 refine AThen_exit ?_
 refine AIn_exit ?_
 refine AThen_normal ?_
 refine qz [(1,.fn (.func 103) [] [.ptr 2 0,.ptr 4 0]),(2,.ptr 5 0)] ?_ ?_
 refine qU 3 [(1,.fn (.func 103) [] [.ptr 2 0,.ptr 4 0]),(2,.ptr 5 0),(25,.bool ((t.kind)==5))] ?_ ?_
 refine qt (beq_iff_eq.2 hb1) ?_ ?_
 refine qo ?_ ?_
 refine qr 2 ?_ ?_
 refine vcallA (args:=[.agg [.int .i64 (t.kind),.str t.name,.int .i64 (t.n),.imm (t.names.map AVal.str),.imm (t.kids.map Ty.enc)],.ptr 2 0,.ptr 4 0]) (hs:=[bS lv,mS m,.box [.ptr 0 0],u.bx,.box [.bool ((b) && vAllL m (t.kids.take k))]]) (hs':=[.box [.int .i64 ((lv)),.map 1],mS m,.box [.ptr 0 0],u.bx,.box [.bool ((((b) && vAllL m (t.kids.take k)) && vOk m t))]]) (rest:=[t.bx]) kq kq kq kq kq (has1_spec t u (lv) m ((b) && vAllL m (t.kids.take k)) oq oq) (by simp [AObj.belO,hpH,Ty.v]) (by simp [AObj.belO,hpH,Ty.v]) rfl (by simp [AObj.belO,hpH,Ty.v]) (by simp [AObj.belO,hpH,Ty.v]) kq ?_
 refine qe ?_ ?_
 refine leafA (l:=[]) (.inl rfl) kq (by simp [awrap]) (by simp [awrap]) (by simp [awrap]) ?_ ?_
 refine Eq.trans (b:=[.box [.int .i64 ((lv)),.map 1],mS m,.box [.ptr 0 0],u.bx,.box [.bool ((((b) && vAllL m (t.kids.take k)) && vOk m t))]]) kq ?_
 rotate_left
 · simp [AObj.belO,hpH,Ty.v]
 iterate 19 kernel_rfl
 refine qt (x:=((t.kind) != 5)) (bne_iff_ne.2 hb1) ?_ ?_
 refine qo ?_ ?_
 refine qr 2 ?_ ?_
 refine vcallA (args:=[.agg [.int .i64 (t.kind),.str t.name,.int .i64 (t.n),.imm (t.names.map AVal.str),.imm (t.kids.map Ty.enc)],.ptr 2 0,.ptr 4 0]) (hs:=[bS lv,mS m,.box [.ptr 0 0],u.bx,.box [.bool (b)]]) (hs':=[.box [.int .i64 ((lv)),.map 1],mS m,.box [.ptr 0 0],u.bx,.box [.bool (((b) && vOk m t))]]) (rest:=[t.bx]) kq kq kq kq kq (has1_spec t u (lv) m (b) oq oq) (by simp [AObj.belO,hpH,Ty.v]) (by simp [AObj.belO,hpH,Ty.v]) rfl (by simp [AObj.belO,hpH,Ty.v]) (by simp [AObj.belO,hpH,Ty.v]) kq ?_
 refine qN [(1,.fn (.func 103) [] [.ptr 2 0,.ptr 4 0]),(2,.ptr 5 0)] [.box [.int .i64 ((lv)),.map 1],mS m,.box [.ptr 0 0],u.bx,.box [.bool (((b) && vOk m t))],t.bx] ?_ ?_
 refine qSeq ?_ ?_
 refine qV 2 ?_ ?_
 refine qy (o_lenmap (l:=t.kids) (enc:=Ty.enc) kq ty23) ?_ ?_ ?_
 refine qR 1 [(1,.fn (.func 103) [] [.ptr 2 0,.ptr 4 0]),(2,.ptr 5 0),(13,.imm (t.kids.map Ty.enc)),(14,nI t.kids.length),(15,.int .i64 0)] [.box [.int .i64 ((lv)),.map 1],mS m,.box [.ptr 0 0],u.bx,.box [.bool (((b) && vOk m t))],t.bx] ?_ ?_
 refine qB 0 ?_ ?_ ?_
 refine wLoop (σ:=Nat) (fun k=>[(1,.fn (.func 103) [] [.ptr 2 0,.ptr 4 0]),(2,.ptr 5 0),(13,.imm (t.kids.map Ty.enc)),(14,.int .i64 ((t.kids.length:Nat):Int)),(15,.int .i64 ((k:Nat):Int))]) (fun k=>[bS lv,mS m,.box [.ptr 0 0],u.bx,.box [.bool ((((b) && vOk m t)) && vAllL m (t.kids.take k))],t.bx]) (fun k=>k≤t.kids.length) (fun k=>t.kids.length - k) 0 kq (by exact Nat.zero_le _) ⟨⟨kq,kq,kq,kq,kq,trivial⟩,by simp [BelL,AVal.bel],by simp,(Eq.trans (b:=[.box [.int .i64 ((lv)),.map 1],mS m,.box [.ptr 0 0],u.bx,.box [.bool (((b) && vOk m t))],t.bx]) kq (by simp [vAllL])),by simp [AObj.belO]⟩ ?_
 rintro k hk
 refine qW 1 [(1,.fn (.func 103) [] [.ptr 2 0,.ptr 4 0]),(2,.ptr 5 0),(13,.imm (t.kids.map Ty.enc)),(14,nI t.kids.length),(15,nI k),(16,.bool (decide (((k:Nat):Int)<((t.kids.length:Nat):Int))))] [bS lv,mS m,.box [.ptr 0 0],u.bx,.box [.bool ((((b) && vOk m t)) && vAllL m (t.kids.take k))],t.bx] ?_ ?_
 refine qSeq ?_ ?_
 by_cases hb4:((k:Nat):Int)<((t.kids.length:Nat):Int)
 refine qt (decide_eq_true hb4) ?_ ?_
 refine qK ?_ ?_
 refine qz [(1,.fn (.func 103) [] [.ptr 2 0,.ptr 4 0]),(2,.ptr 5 0),(13,.imm (t.kids.map Ty.enc)),(14,nI t.kids.length),(15,nI k)] ?_ ?_
 refine qSeq ?_ ?_
 refine qB 1 ?_ ?_ ?_
 refine qO ?_ ?_
 refine qy ((o_ixmap (k:=.i64) (l:=t.kids) (enc:=Ty.enc) (i:=((k:Nat):Int)) Ty.zero kq ty23 ty25 ty_size oq oq).trans (congrArg (fun cs=>some (AVal.pimm cs 0,_)) (ty_cells (t.kids.getD k Ty.zero)))) ?_ ?_ ?_
 refine qR 3 [(1,.fn (.func 103) [] [.ptr 2 0,.ptr 4 0]),(2,.ptr 5 0),(5,.ptr 6 0),(13,.imm (t.kids.map Ty.enc)),(14,nI t.kids.length),(15,nI k)] [bS lv,mS m,.box [.ptr 0 0],u.bx,.box [.bool ((((b) && vOk m t)) && vAllL m (t.kids.take k))],t.bx,(t.kids.getD k Ty.zero).bx] ?_ ?_
 refine qo ?_ ?_
 refine qr 2 ?_ ?_
 refine vcallA (args:=[.agg [.int .i64 ((t.kids.getD k Ty.zero).kind),.str (t.kids.getD k Ty.zero).name,.int .i64 ((t.kids.getD k Ty.zero).n),.imm ((t.kids.getD k Ty.zero).names.map AVal.str),.imm ((t.kids.getD k Ty.zero).kids.map Ty.enc)],.fn (.func 103) [] [.ptr 2 0,.ptr 4 0]]) (hs:=[bS lv,mS m,.box [.ptr 0 0],u.bx,.box [.bool ((((b) && vOk m t)) && vAllL m (t.kids.take k))]]) (hs':=[.box [.int .i64 ((lv)),.map 1],mS m,.box [.ptr 0 0],u.bx,.box [.bool ((((((b) && vOk m t)) && vAllL m (t.kids.take k)) && vAll m (t.kids.getD k Ty.zero)))]]) (rest:=[t.bx,(t.kids.getD k Ty.zero).bx]) kq kq kq kq kq (ihV (t.kids.getD k Ty.zero) u ((((b) && vOk m t)) && vAllL m (t.kids.take k)) (sz_kid t k oq)) (by simp [AObj.belO,hpH,Ty.v]) (by simp [AObj.belO,hpH,Ty.v]) rfl (by simp [AObj.belO,hpH,Ty.v]) (by simp [AObj.belO,hpH,Ty.v]) kq ?_
 refine qe ?_ ?_
 refine AIn_normal ?_
 refine AThen_normal ?_
 refine qZ [(1,.fn (.func 103) [] [.ptr 2 0,.ptr 4 0]),(2,.ptr 5 0),(13,.imm (t.kids.map Ty.enc)),(14,nI t.kids.length),(15,nI k)] [.box [.int .i64 ((lv)),.map 1],mS m,.box [.ptr 0 0],u.bx,.box [.bool ((((((b) && vOk m t)) && vAllL m (t.kids.take k)) && vAll m (t.kids.getD k Ty.zero)))],t.bx,(t.kids.getD k Ty.zero).bx] ?_ ?_
 refine qo ?_ ?_
 refine qy (o_add (a:=((k:Nat):Int)) (b:=1) kq oq oq) ?_ ?_ ?_
 refine qr 1 ?_ ?_
 refine qe ?_ ?_
 refine AThen_normal ⟨k+1,?_,?_,⟨⟨kq,kq,kq,kq,kq,trivial⟩,by simp [BelL,AVal.bel],by simp,(Eq.trans (b:=[.box [.int .i64 ((lv)),.map 1],mS m,.box [.ptr 0 0],u.bx,.box [.bool ((((((b) && vOk m t)) && vAllL m (t.kids.take k)) && vAll m (t.kids.getD k Ty.zero)))],t.bx]) kq (by rw [vAllL_take m t.kids k oq,Bool.and_assoc])),by simp [AObj.belO]⟩⟩
 · omega
 · omega
 iterate 19 kernel_rfl
 refine qf (decide_eq_false hb4) ?_ ?_
 refine wExit 0 kq kq ?_
 refine AThen_exit ?_
 refine AThen_exit ?_
 refine AIn_exit ?_
 refine AThen_normal ?_
 refine qz [(1,.fn (.func 103) [] [.ptr 2 0,.ptr 4 0]),(2,.ptr 5 0)] ?_ ?_
 refine qU 3 [(1,.fn (.func 103) [] [.ptr 2 0,.ptr 4 0]),(2,.ptr 5 0),(25,.bool ((t.kind)==5))] ?_ ?_
 refine qf (beq_eq_false_iff_ne.2 hb1) ?_ ?_
 refine qk ?_ ?_
 refine leafA (l:=[]) (.inl rfl) kq (by simp [awrap]) (by simp [awrap]) (by simp [awrap]) ?_ ?_
 refine Eq.trans (b:=[bS lv,mS m,.box [.ptr 0 0],u.bx,.box [.bool ((((b) && vOk m t)) && vAllL m (t.kids.take k))]]) kq ?_
 rotate_left
 · simp [AObj.belO,hpH,Ty.v]
 iterate 22 kernel_rfl
 all_goals
  refine congrArg (hpH lv m u) ?_
  rw [vAll_eq,List.take_of_length_le oq]
  first|(rw [Bool.and_assoc];done)|(rw [Bool.and_assoc,Bool.and_comm (vAllL m t.kids)];done)
noncomputable def c64:Code:=bodyOf Tryz.f64
theorem has_S (t:Ty) (lv:Int) (m:St) (hs:t.sz<100000000) (hm:stSm m):CallsA cx 64 [.ptr 0 0,Ty.v t] (hpS lv m) (fun v h=>v=(.bool (hasB m t))∧h=hpS lv m):=by
 refine func_intro (cx:=cx) 12 2 [(ResultVar.tmp 4)] Tryz.func64 rfl rfl rfl rfl rfl zq ?_
 show wpA cx 12 2 (at_ c64 []) _ _ _
 refine qZ [(0,.ptr 0 0),(1,Ty.v t)] [bS lv,mS m] ?_ ?_
 refine qW 3 [(2,.ptr 2 0),(3,.ptr 3 0)] [bS lv,mS m,.box [.ptr 0 0],t.bx] ?_ ?_
 refine qV 1 ?_ ?_
 refine vcallP (args:=[.agg [.int .i64 (t.kind),.str t.name,.int .i64 (t.n),.imm (t.names.map AVal.str),.imm (t.kids.map Ty.enc)]]) kq kq kq kq (tvalid_spec t oq) (by simp [Ty.v,frzL_app,Occ.v]) (by simp [Ty.v]) (by simp [Ty.v,ownsL_app]) ?_
 refine qR 2 [(2,.ptr 2 0),(3,.ptr 3 0),(5,.ptr 4 0)] [bS lv,mS m,.box [.ptr 0 0],t.bx,.box [.bool (validB t)]] ?_ ?_
 refine qV 2 ?_ ?_
 refine vcallA (args:=[.agg [.int .i64 (t.kind),.str t.name,.int .i64 (t.n),.imm (t.names.map AVal.str),.imm (t.kids.map Ty.enc)],.fn (.func 103) [] [.ptr 2 0,.ptr 4 0]]) (hs:=[bS lv,mS m,.box [.ptr 0 0],t.bx,.box [.bool (validB t)]]) (hs':=[.box [.int .i64 ((lv)),.map 1],mS m,.box [.ptr 0 0],t.bx,.box [.bool (((validB t) && vAll m t))]]) (rest:=[]) kq kq kq kq kq (visitH_spec t t (lv) m (validB t) oq oq) (by simp [AObj.belO,hpH,hpS,Ty.v]) (by simp [AObj.belO,hpH,hpS,Ty.v]) rfl (by simp [AObj.belO,hpH,hpS,Ty.v]) (by simp [AObj.belO,hpH,hpS,Ty.v]) kq ?_
 refine qN [(5,.ptr 4 0)] [.box [.int .i64 ((lv)),.map 1],mS m,.box [.ptr 0 0],t.bx,.box [.bool (((validB t) && vAll m t))]] ?_ ?_
 refine qU 2 [(4,.bool (((validB t) && vAll m t)))] ?_ ?_
 refine wRet kq ?_
 refine leafA (l:=[.bool (((validB t) && vAll m t))]) (.inr rfl) kq (by simp [awrap,hasB]) (by simp [awrap]) (by simp [awrap]) ?_ ?_
 refine Eq.trans (b:=[.box [.int .i64 ((lv)),.map 1],mS m]) kq ?_
 · rfl
 · simp [AObj.belO,hpH,hpS,Ty.v]
 iterate 7 kernel_rfl
end Go.Proofs.YtdikgijfekfaoaaGreatDoor
namespace Go.Proofs.YtdikgijfekfaoaaGreatDoor
open Go.Proofs.YtdikgijfekfaoaaGreatDoor.Abs
set_option maxRecDepth 20000
set_option maxHeartbeats 4000000
noncomputable def c21:Code:=bodyOf Tryz.f21
theorem new_raw  :CallsA cx 21 [] [] (fun v h=>v=.ptr 1 0∧h=[mS ([]:St),.box [.int .i64 0,.map 0]]):=by
 refine func_raw (cx:=cx) 4 0 [(ResultVar.tmp 0)] Tryz.func21 rfl rfl rfl rfl rfl zq ?_
 show wpA cx 4 0 (at_ c21 []) _ _ _
 refine qZ [] [] ?_ ?_
 refine qU 1 [] ?_ ?_
 refine qW 4 [(0,.ptr 1 0)] [mS ([]:List (Int×Vr)),.box [.int .i64 0,.map 0]] ?_ ?_
 refine wRet kq ?_
 refine leafR (l:=[.ptr 1 0]) 2 [mS ([]:List (Int×Vr)),.box [.int .i64 0,.map 0]] (.inr rfl) kq (Nat.zero_le _) kq (by simp [awrap,-List.map_append,-List.map_take,-List.map_drop,-List.append_assoc]) (by simp [AObj.belO,-List.map_append,-List.map_take,-List.map_drop,-List.append_assoc]) ?_
 · exact ⟨rfl,rfl⟩
 iterate 3 kernel_rfl
noncomputable def c80:Code:=bodyOf Tryz.f80
theorem make_spec (x:Vr) (lv:Int) (m:St) (hml:m.length<100000000):CallsA cx 80 [.ptr 0 0,Vr.v x] [bS lv,mS m] (fun v h=>v=(.int .i64 (((m.length+1):Nat):Int))∧h=[bS lv,mS (mset ((((m.length+1):Nat):Int)) x m)]):=by
 refine func_intro (cx:=cx) 19 2 [(ResultVar.tmp 4)] Tryz.func80 rfl rfl rfl rfl rfl zq ?_
 show wpA cx 19 2 (at_ c80 []) _ _ _
 refine qZ [(0,.ptr 0 0),(1,Vr.v x)] [bS lv,mS m] ?_ ?_
 refine qW 2 [(0,.ptr 0 0),(3,.ptr 2 0)] [bS lv,mS m,.box [.bool (x.row),.int .i64 (x.lv),.bool (x.bd),.int .i64 (x.val.kind),.str x.val.name,.int .i64 (x.val.n),.imm (x.val.names.map AVal.str),.imm (x.val.kids.map Ty.enc),.imm (x.names.map AVal.str)]] ?_ ?_
 refine qV 4 ?_ ?_
 refine qy (o_lenM (o:=1) (ek:=(AVal.int .i64)) (ev:=Vr.v) (l:=m) kq ty88 kq) ?_ ?_ ?_
 refine qy (o_add (a:=((m.length:Nat):Int)) (b:=1) kq oq oq) ?_ ?_ ?_
 refine qR 1 [(0,.ptr 0 0),(3,.ptr 2 0),(5,nI (m.length+1))] [bS lv,mS m,.box [.bool (x.row),.int .i64 (x.lv),.bool (x.bd),.int .i64 (x.val.kind),.str x.val.name,.int .i64 (x.val.n),.imm (x.val.names.map AVal.str),.imm (x.val.kids.map Ty.enc),.imm (x.names.map AVal.str)]] ?_ ?_
 refine qSeq ?_ ?_
 refine wDrw cxM kq extThen (dstart ?_)
 refine qu 6 ?_ ?_
 refine qD (o_mset (o:=1) (ek:=(AVal.int .i64)) (ev:=Vr.v) (l:=m) (k:=(((m.length+1):Nat):Int)) (x:=(Vr.mk (x.row) (x.lv) (x.bd) x.val x.names)) keyI kq ty88 ty3 rfl kq kq) ?_ ?_ ?_ ?_
 refine dend kq ⟨kq,?_⟩
 refine AThen_normal ?_
 refine qZ [(5,nI (m.length+1))] [bS lv,mS (mset (((m.length+1):Nat):Int) (Vr.mk (x.row) (x.lv) (x.bd) x.val x.names) m),.box [.bool (x.row),.int .i64 (x.lv),.bool (x.bd),.int .i64 (x.val.kind),.str x.val.name,.int .i64 (x.val.n),.imm (x.val.names.map AVal.str),.imm (x.val.kids.map Ty.enc),.imm (x.names.map AVal.str)]] ?_ ?_
 refine qU 2 [(4,nI (m.length+1))] ?_ ?_
 refine wRet kq ?_
 refine leafA (l:=[.int .i64 (((m.length+1):Nat):Int)]) (.inr rfl) kq (by simp [awrap]) (by simp [awrap]) (by simp [awrap]) ?_ ?_
 refine Eq.trans (b:=[bS lv,mS (mset (((m.length+1):Nat):Int) (Vr.mk (x.row) (x.lv) (x.bd) x.val x.names) m)]) kq ?_
 · rfl
 · simp [AObj.belO,Vr.v]
 iterate 15 kernel_rfl
theorem make_frz (lv:Int) (m:St) (hml:m.length<100000000):CallsA cx 80 [.ptr 0 0,.agg [.bool false,.int .i64 (lv),.bool false,.int .i64 0,.str [],.int .i64 0,.full [],.full [],.full []]] [bS lv,mS m] (fun v h=>v=(.int .i64 ((((m.length+1):Nat)):Int))∧h=[bS lv,mS (mset ((((m.length+1):Nat):Int)) ⟨false,lv,false,Ty.zero,[]⟩ m)]):=by
  refine CallsA_frz ?_
  have:=make_spec ⟨false,lv,false,Ty.zero,[]⟩ lv m hml
  simpa [frzL,frzH,ownsL,AVal.frz,AVal.owns,Vr.v,Ty.zero] using this
noncomputable def c33:Code:=bodyOf Tryz.f33
theorem var_spec (lv:Int) (m:St) (hml:m.length<100000000):CallsA cx 33 [.ptr 0 0] [bS lv,mS m] (fun v h=>v=(.agg [.int .i64 6,.str [],.int .i64 (((m.length+1):Nat):Int),.imm [],.imm []])∧h=[bS lv,mS (mset ((((m.length+1):Nat):Int)) ⟨false,lv,false,Ty.zero,[]⟩ m)]):=by
 refine func_intro (cx:=cx) 11 2 [(ResultVar.cell 2 25)] Tryz.func33 rfl rfl rfl rfl rfl zq ?_
 show wpA cx 11 2 (at_ c33 []) _ _ _
 refine qZ [(0,.ptr 0 0)] [bS lv,mS m] ?_ ?_
 refine qW 1 [(0,.ptr 0 0),(2,.ptr 2 0)] [bS lv,mS m,.box zC] ?_ ?_
 refine qV 6 ?_ ?_
 refine vcallA (args:=[.ptr 0 0,.agg [.bool false,.int .i64 (lv),.bool false,.int .i64 0,.str [],.int .i64 0,.full [],.full [],.full []]]) (hs:=[bS lv,mS m]) (hs':=[.box [.int .i64 ((lv)),.map 1],mS (mset ((((m.length+1):Nat):Int)) ⟨false,(lv),false,Ty.zero,[]⟩ m)]) (rest:=[.box zC]) kq kq kq kq kq (make_frz (lv) m oq) (by simp [AObj.belO]) (by simp [AObj.belO]) rfl (by simp [AObj.belO]) (by simp [AObj.belO]) kq ?_
 refine qR 2 [(2,.ptr 2 0)] [.box [.int .i64 ((lv)),.map 1],mS (mset ((((m.length+1):Nat):Int)) ⟨false,(lv),false,Ty.zero,[]⟩ m),.box [.int .i64 6,.str [],nI (m.length+1),.full [],.full []]] ?_ ?_
 refine wRet kq ?_
 refine leafA (l:=[.agg [.int .i64 6,.str [],.int .i64 (((m.length+1):Nat):Int),.full [],.full []]]) (.inr rfl) kq (by simp [awrap,AVal.frz,frzL]) (by simp [awrap]) (by simp [awrap]) ?_ ?_
 refine Eq.trans (b:=[.box [.int .i64 ((lv)),.map 1],mS (mset ((((m.length+1):Nat):Int)) ⟨false,(lv),false,Ty.zero,[]⟩ m)]) kq ?_
 · rfl
 · simp [AObj.belO]
 iterate 4 kernel_rfl
noncomputable def c23:Code:=bodyOf Tryz.f23
noncomputable def c24:Code:=bodyOf Tryz.f24
end Go.Proofs.YtdikgijfekfaoaaGreatDoor
namespace Go.Proofs.YtdikgijfekfaoaaGreatDoor
open Go.Proofs.YtdikgijfekfaoaaGreatDoor.Abs
set_option maxRecDepth 20000
set_option maxHeartbeats 4000000
noncomputable def c36:Code:=bodyOf Tryz.f36
end Go.Proofs.YtdikgijfekfaoaaGreatDoor
namespace Go.Proofs.YtdikgijfekfaoaaGreatDoor
open Go.Proofs.YtdikgijfekfaoaaGreatDoor.Abs
set_option maxRecDepth 20000
set_option maxHeartbeats 4000000
@[simp] theorem bel_vr (k:Nat) (x:Vr):x.v.bel k=true:=by simp [Vr.v]
@[simp] theorem belL_vr (k:Nat):∀ l:List Vr,belL k (l.map Vr.v)=true
  | []=>rfl
  | x::l=>by simp [belL,belL_vr k l]
theorem refs_vr (x:Vr):x.v.refs=[]:=bel_refs _ (bel_vr 0 x)
theorem refs_st (l:St):(encM (AVal.int .i64) Vr.v l).flatMap (fun e=>e.1.refs++e.2.refs)=[]:=by
  rw [List.flatMap_eq_nil_iff]
  intro e he
  obtain ⟨p,_,rfl⟩:=List.mem_map.1 he
  simp [AVal.refs,refs_vr]
theorem renE_st (r:Nat→Nat) (l:St):renE r (encM (AVal.int .i64) Vr.v l)=encM (AVal.int .i64) Vr.v l:=renE_id (k:=0) (fun i hi=>by omega) _ (encM_st 0 l)
def m1:St:=[(1,⟨false,0,false,Ty.zero,[]⟩)]
def vT:Ty:=.mk 6 [] 1 [] []
def lsT (t:Ty):Ty:=.mk 4 [] 0 [] [t]
noncomputable def c28:Code:=bodyOf Tryz.f28
theorem list_spec (t:Ty) :CallsP cx 28 [Ty.v t] (Ty.v (lsT t)):=by
 refine func_intro (cx:=cx) 6 0 [(ResultVar.cell 2 25)] Tryz.func28 rfl rfl rfl rfl rfl zq ?_
 show wpA cx 6 0 (at_ c28 []) _ _ _
 refine qZ [(0,Ty.v t)] [] ?_ ?_
 refine qW 2 [(1,.ptr 0 0),(2,.ptr 1 0)] [t.bx,.box zC] ?_ ?_
 refine qW 4 [(2,.ptr 1 0)] [t.bx,.box [.int .i64 4,.str [],.int .i64 0,.full [],.full [.agg [.int .i64 (t.kind),.str t.name,.int .i64 (t.n),.imm (t.names.map AVal.str),.imm (t.kids.map Ty.enc)]]]] ?_ ?_
 refine wRet kq ?_
 refine leafP (l:=[.agg [.int .i64 4,.str [],.int .i64 0,.full [],.full [.agg [.int .i64 (t.kind),.str t.name,.int .i64 (t.n),.imm (t.names.map AVal.str),.imm (t.kids.map Ty.enc)]]]]) (.inr rfl) kq ?_
 · simp [awrap,AVal.frz,frzL,lsT,Ty.v,Ty.kind,Ty.name,Ty.n,Ty.names,Ty.kids,Ty.enc_v]
 iterate 3 kernel_rfl
end Go.Proofs.YtdikgijfekfaoaaGreatDoor
namespace Go.Proofs.YtdikgijfekfaoaaGreatDoor
open Go.Proofs.YtdikgijfekfaoaaGreatDoor.Abs
theorem mem_visN {t:Ty} {n:Int}:n∈visN [] t↔n∈occN t:=by
  show n∈(occN t).foldl addN []↔_
  rw [mem_fold];simp
inductive Gt:Ty→Prop
  | leaf (k:Int) (x:List UInt8) (h4:k≠4) (h5:k≠5) (h6:k≠6):Gt (.mk k x 0 [] [])
  | list (t:Ty) (h:Gt t):Gt (.mk 4 [] 0 [] [t])
  | var (n:Int) (h:0<n):Gt (.mk 6 [] n [] [])
  | rcd (n:Int) (ns:List (List UInt8)) (ks:List Ty) (h0:0≤n) (hs:ns.Pairwise (fun a b=>a<b)) (hl:ns.length=ks.length) (hk:∀ k∈ks,Gt k):Gt (.mk 5 [] n ns ks)
def fg (s:List UInt8) (t:Ty):Option Ty:=mget s (t.names.zip t.kids)
theorem mg_mem {κ α:Type} [DecidableEq κ] {k:κ} {x:α}:∀ {l:List (κ×α)},mget k l=some x→(k,x)∈l
  | [],h=>by simp [mget] at h
  | p::l,h=>by
    rw [mget] at h
    split at h
    · rename_i e;cases h;subst e;exact List.mem_cons_self
    · exact List.mem_cons_of_mem _ (mg_mem h)
theorem mget_key {κ α:Type} [DecidableEq κ] {k:κ}:∀ {l:List (κ×α)},(mget k l).isSome=true↔k∈l.map Prod.fst
  | []=>by simp [mget]
  | p::l=>by
    rw [mget]
    by_cases e:k=p.1
    · rw [if_pos e];simp [e]
    · rw [if_neg e,mget_key];simp [e]
theorem mg_of {κ α:Type} [DecidableEq κ] {k:κ} {x:α}:∀ {l:List (κ×α)},(l.map Prod.fst).Nodup→(k,x)∈l→mget k l=some x
  | [],_,h=>by simp at h
  | p::l,hn,h=>by
    rw [List.map_cons,List.nodup_cons] at hn
    rw [mget]
    rcases List.mem_cons.1 h with rfl|h
    · rw [if_pos rfl]
    · rw [if_neg,mg_of hn.2 h]
      intro e
      exact hn.1 (e▸List.mem_map_of_mem (f:=Prod.fst) h)
theorem zip_fst' {α β:Type}:∀ {a:List α} {b:List β},a.length=b.length→(a.zip b).map Prod.fst=a
  | [],_,_=>rfl
  | x::a,y::b,h=>by simp only [List.zip_cons_cons,List.map_cons,zip_fst' (a:=a) (b:=b) (by simpa using h)]
  | x::a,[],h=>by simp at h
theorem lt_nodup {l:List (List UInt8)} (h:l.Pairwise (fun a b=>a<b)):l.Nodup:=h.imp fun {a b} h=>by rintro rfl;exact absurd h (List.lt_irrefl a)
theorem fg_none {s:List UInt8} {t:Ty} (hl:t.names.length=t.kids.length):fg s t=none↔s∉t.names:=by
  have:=mget_key (k:=s) (l:=t.names.zip t.kids)
  rw [zip_fst' hl] at this
  unfold fg
  rw [← this];simp
theorem fg_some {s:List UInt8} {t:Ty} (hl:t.names.length=t.kids.length) (h:s∈t.names):∃ x,fg s t=some x:=by
  have:=mget_key (k:=s) (l:=t.names.zip t.kids)
  rw [zip_fst' hl] at this
  exact Option.isSome_iff_exists.1 (this.2 h)
theorem fg_kid {s:List UInt8} {t x:Ty} (h:fg s t=some x):x∈t.kids:=(List.of_mem_zip (mg_mem h)).2
theorem fg_name {s:List UInt8} {t x:Ty} (h:fg s t=some x):s∈t.names:=(List.of_mem_zip (mg_mem h)).1
theorem kid_fg {t x:Ty} (hn:t.names.Nodup) (hl:t.names.length=t.kids.length) (h:x∈t.kids):∃ s,fg s t=some x:=by
  obtain ⟨i,hi,e⟩:=List.getElem_of_mem h
  have hz:i<(t.names.zip t.kids).length:=by rw [List.length_zip];omega
  have hm:(t.names.zip t.kids)[i]∈t.names.zip t.kids:=List.getElem_mem hz
  rw [List.getElem_zip,e] at hm
  exact ⟨t.names[i],mg_of (by rw [zip_fst' hl];exact hn) hm⟩
theorem Gt.sorted {t:Ty} (h:Gt t) (h5:t.kind=5):t.names.Pairwise (fun a b=>a<b)∧t.names.length=t.kids.length∧t.name=[]∧0≤t.n∧∀ k∈t.kids,Gt k:=by
  cases h with
  | leaf k x h4 h5' h6=>exact absurd h5 h5'
  | list t h=>simp at h5
  | var n h=>simp at h5
  | rcd n ns ks h0 hs hl hk=>exact ⟨hs,hl,rfl,h0,hk⟩
theorem rec_ext {a b:Ty} (ha:Gt a) (hb:Gt b) (ka:a.kind=5) (kb:b.kind=5) (hn:a.n=b.n) (hf:∀ s,fg s a=fg s b):a=b:=by
  obtain ⟨sa,la,na,_,_⟩:=ha.sorted ka
  obtain ⟨sb,lb,nb,_,_⟩:=hb.sorted kb
  have hm:∀ s,s∈a.names↔s∈b.names:=by
    intro s
    have h1:=fg_none (s:=s) la
    have h2:=fg_none (s:=s) lb
    rw [hf s] at h1
    constructor
    · intro h;exact Classical.byContradiction fun h'=>(h1.1 (h2.2 h')) h
    · intro h;exact Classical.byContradiction fun h'=>(h2.1 (h1.2 h')) h
  have hnm:a.names=b.names:=by
    have hp:a.names.Perm b.names:=(List.perm_ext_iff_of_nodup (lt_nodup sa) (lt_nodup sb)).2 hm
    exact List.Perm.eq_of_pairwise (le:=fun a b=>a<b) (fun x y _ _ h1 h2=>absurd (List.lt_trans h1 h2) (List.lt_irrefl _)) sa sb hp
  have hk:a.kids=b.kids:=by
    have hnl:a.names.length=b.names.length:=by rw [hnm]
    refine List.ext_getElem oq fun i h1 h2=>?_
    have hi:i<a.names.length:=by omega
    have hi':i<b.names.length:=by omega
    have e1:fg a.names[i] a=some a.kids[i]:=mg_of (by rw [zip_fst' la];exact lt_nodup sa) (by have:=List.getElem_mem (l:=a.names.zip a.kids) (n:=i) (by rw [List.length_zip];omega);rwa [List.getElem_zip] at this)
    have e2:fg b.names[i] b=some b.kids[i]:=mg_of (by rw [zip_fst' lb];exact lt_nodup sb) (by have:=List.getElem_mem (l:=b.names.zip b.kids) (n:=i) (by rw [List.length_zip];omega);rwa [List.getElem_zip] at this)
    have e3:a.names[i]=b.names[i]:=by simp only [hnm]
    rw [hf,e3,e2] at e1
    exact (Option.some.inj e1).symm
  rw [← Ty.eta a,← Ty.eta b,ka,kb,na,nb,hn,hnm,hk]
def addF (l:Fd) (t:Ty):Fd:=(t.names.zip t.kids).foldl (fun l p=>mset p.1 p.2 l) l
theorem foldS_get {s:List UInt8}:∀ (z:Fd) (l:Fd),(z.map Prod.fst).Nodup→mget s (z.foldl (fun l p=>mset p.1 p.2 l) l)=(mget s z).orElse fun _=>mget s l
  | [],l,_=>rfl
  | p::z,l,h=>by
    rw [List.map_cons,List.nodup_cons] at h
    rw [List.foldl_cons,foldS_get z _ h.2,mget,mget_mset]
    by_cases e:s=p.1
    · rw [if_pos e,if_pos e]
      have:mget s z=none:=by
        cases hm:mget s z with
        | none=>rfl
        | some x=>exact absurd (mget_key.1 (by rw [hm];rfl)) (e▸h.1)
      rw [this];rfl
    · rw [if_neg e,if_neg e]
theorem addF_get {s:List UInt8} {l:Fd} {t:Ty} (hn:t.names.Nodup) (hl:t.names.length=t.kids.length):mget s (addF l t)=(fg s t).orElse fun _=>mget s l:=foldS_get _ _ (by rw [zip_fst' hl];exact hn)
theorem foldS_keys:∀ (z l:Fd),(l.map Prod.fst).Nodup→((z.foldl (fun l p=>mset p.1 p.2 l) l).map Prod.fst).Nodup
  | [],l,h=>h
  | p::z,l,h=>by
    rw [List.foldl_cons]
    refine foldS_keys z _ ?_
    rw [mset_keys]
    split
    · exact h
    · rename_i hm
      rw [List.nodup_append]
      exact ⟨h,by simp,fun a ha b hb=>by simp only [List.mem_singleton] at hb;subst hb;rintro rfl;exact hm ha⟩
theorem addF_keys {l:Fd} (t:Ty) (h:(l.map Prod.fst).Nodup):((addF l t).map Prod.fst).Nodup:=foldS_keys _ _ h
theorem foldS_mem {q:List UInt8×Ty}:∀ (z l:Fd),q∈z.foldl (fun l p=>mset p.1 p.2 l) l→q∈z∨q∈l
  | [],l,h=>.inr h
  | p::z,l,h=>by
    rw [List.foldl_cons] at h
    rcases foldS_mem z _ h with h|h
    · exact .inl (List.mem_cons_of_mem _ h)
    · have:∀ l:Fd,q∈mset p.1 p.2 l→q=p∨q∈l:=by
        intro l
        induction l with
        | nil=>intro h;simp only [mset,List.mem_singleton] at h;exact .inl (h.trans (by cases p;rfl))
        | cons r l ih =>
          intro h
          rw [mset] at h
          split at h
          · rcases List.mem_cons.1 h with h|h
            · exact .inl (h.trans (by cases p;rfl))
            · exact .inr (List.mem_cons_of_mem _ h)
          · rcases List.mem_cons.1 h with h|h
            · exact .inr (h▸List.mem_cons_self)
            · rcases ih h with h|h
              · exact .inl h
              · exact .inr (List.mem_cons_of_mem _ h)
      rcases this l h with h|h
      · exact .inl (h▸List.mem_cons_self)
      · exact .inr h
theorem addF_mem {q:List UInt8×Ty} {l:Fd} {t:Ty} (h:q∈addF l t):(q.1∈t.names∧q.2∈t.kids)∨q∈l:=by
  rcases foldS_mem _ _ h with h|h
  · exact .inl (List.of_mem_zip h)
  · exact .inr h
theorem sSort_lt {l:List (List UInt8)} (h:l.Nodup):(sSort l).Pairwise (fun a b=>a<b):=by
  have h1:=sSort_sorted l
  have h2:(sSort l).Nodup:=(sSort_perm l).nodup_iff.2 h
  refine (List.Pairwise.and h1 h2).imp fun {a b} hh=>?_
  have h3:=hh.1
  simp only [leB,decide_eq_true_eq] at h3
  rcases List.le_iff_lt_or_eq.1 h3 with h|h
  · exact h
  · exact absurd h hh.2
theorem recT_names (l:Fd) (n:Int):(recT l n).names=sSort (l.map Prod.fst):=rfl
theorem recT_kids (l:Fd) (n:Int):(recT l n).kids=(sSort (l.map Prod.fst)).map fun s=>(mget s l).getD Ty.zero:=by
  show recK l _=_
  rw [recK,List.take_length]
theorem recT_fg {l:Fd} {n:Int} {s:List UInt8} (h:(l.map Prod.fst).Nodup):fg s (recT l n)=mget s l:=by
  have hl:(recT l n).names.length=(recT l n).kids.length:=by rw [recT_names,recT_kids,List.length_map]
  by_cases hs:s∈l.map Prod.fst
  · have hs':s∈sSort (l.map Prod.fst):=(sSort_perm _).mem_iff.2 hs
    obtain ⟨i,hi,e⟩:=List.getElem_of_mem hs'
    have hz:i<((recT l n).names.zip (recT l n).kids).length:=by rw [List.length_zip,← hl,recT_names];omega
    have hm:=List.getElem_mem hz
    rw [List.getElem_zip] at hm
    simp only [recT_names,recT_kids,List.getElem_map] at hm
    have hfst:((recT l n).names.zip (recT l n).kids).map Prod.fst=sSort (l.map Prod.fst):=zip_fst' hl
    have:=mg_of (k:=s) (x:=(mget s l).getD Ty.zero) (l:=(recT l n).names.zip (recT l n).kids) (by rw [hfst];exact lt_nodup (sSort_lt h)) (by rw [recT_names,recT_kids];rw [e] at hm;exact hm)
    unfold fg
    rw [this]
    have h2:=mget_key.2 hs
    obtain ⟨x,hx⟩:=Option.isSome_iff_exists.1 h2
    rw [hx];rfl
  · have h1:mget s l=none:=by
      cases hm:mget s l with
      | none=>rfl
      | some x=>exact absurd (mget_key.1 (by rw [hm];rfl)) hs
    rw [h1,fg_none hl,recT_names,(sSort_perm _).mem_iff]
    exact hs
theorem recT_G {l:Fd} {n:Int} (h:(l.map Prod.fst).Nodup) (h0:0≤n) (hk:∀ p∈l,Gt p.2):Gt (recT l n):=by
  have:=recT_kids l n
  refine .rcd n _ _ h0 (sSort_lt h) (by show _=(recT l n).kids.length;rw [this,List.length_map]) fun k hm=>?_
  have hm:k∈(recT l n).kids:=hm
  rw [this] at hm
  obtain ⟨s,hs,rfl⟩:=List.mem_map.1 hm
  have h2:=mget_key.2 ((sSort_perm _).mem_iff.1 hs)
  obtain ⟨x,hx⟩:=Option.isSome_iff_exists.1 h2
  rw [hx]
  exact hk _ (mg_mem hx)
def mrg (a b:Ty):Ty:=recT (addF (addF [] a) b) b.n
theorem mrg_keys (a b:Ty):((addF (addF [] a) b).map Prod.fst).Nodup:=addF_keys b (addF_keys a zq)
theorem mrg_fg {a b:Ty} {s:List UInt8} (ha:a.names.Nodup) (la:a.names.length=a.kids.length) (hb:b.names.Nodup) (lb:b.names.length=b.kids.length):fg s (mrg a b)=(fg s b).orElse fun _=>fg s a:=by
  rw [mrg,recT_fg (mrg_keys a b),addF_get hb lb,addF_get ha la]
  congr 1
  funext _
  simp [mget]
theorem mrg_G {a b:Ty} (h0:0≤b.n) (ha:∀ k∈a.kids,Gt k) (hb:∀ k∈b.kids,Gt k):Gt (mrg a b):=by
  refine recT_G (mrg_keys a b) h0 fun p hp=>?_
  rcases addF_mem hp with h|h
  · exact hb _ h.2
  · rcases addF_mem h with h|h
    · exact ha _ h.2
    · simp at h
@[simp] theorem mrg_n (a b:Ty):(mrg a b).n=b.n:=rfl
@[simp] theorem mrg_kind (a b:Ty):(mrg a b).kind=5:=rfl
theorem mrg_kid {a b k:Ty} (h:k∈(mrg a b).kids):k∈a.kids∨k∈b.kids:=by
  rw [mrg,recT_kids] at h
  obtain ⟨s,hs,rfl⟩:=List.mem_map.1 h
  have h2:=mget_key.2 ((sSort_perm _).mem_iff.1 hs)
  obtain ⟨x,hx⟩:=Option.isSome_iff_exists.1 h2
  rw [hx]
  rcases addF_mem (mg_mem hx) with h|h
  · exact .inr h.2
  · rcases addF_mem h with h|h
    · exact .inl h.2
    · simp at h
mutual
def sub (σ:Int→Ty):Ty→Ty
  | .mk k x n l ks=>if k=6 then σ n else if k=5∧n≠0 then mrg (.mk 5 [] 0 l (subL σ ks)) (σ n) else .mk k x n l (subL σ ks)
def subL (σ:Int→Ty):List Ty→List Ty
  | []=>[]
  | t::l=>sub σ t::subL σ l
end
theorem subL_map (σ:Int→Ty):∀ l,subL σ l=l.map (sub σ)
  | []=>rfl
  | t::l=>by rw [subL,subL_map σ l];rfl
theorem sub_var (σ:Int→Ty) (x:List UInt8) (n:Int) (l:List (List UInt8)) (ks:List Ty):sub σ (.mk 6 x n l ks)=σ n:=by rw [sub,if_pos rfl]
theorem sub_row (σ:Int→Ty) {n:Int} (x:List UInt8) (l:List (List UInt8)) (ks:List Ty) (h:n≠0):sub σ (.mk 5 x n l ks)=mrg (.mk 5 [] 0 l (ks.map (sub σ))) (σ n):=by rw [sub,if_neg oq,if_pos ⟨rfl,h⟩,subL_map]
theorem sub_no (σ:Int→Ty) {k n:Int} (x:List UInt8) (l:List (List UInt8)) (ks:List Ty) (h6:k≠6) (h5:k=5→n=0):sub σ (.mk k x n l ks)=.mk k x n l (ks.map (sub σ)):=by rw [sub,if_neg h6,if_neg (fun h=>h.2 (h5 h.1)),subL_map]
theorem fg_map (σ:Int→Ty) (s:List UInt8) (k k':Int) (x x':List UInt8) (n n':Int) (l:List (List UInt8)) (ks:List Ty):fg s (.mk k x n l (ks.map (sub σ)))=(fg s (.mk k' x' n' l ks)).map (sub σ):=by
  show mget s (l.zip (ks.map (sub σ)))=(mget s (l.zip ks)).map (sub σ)
  induction l generalizing ks with
  | nil=>simp [mget]
  | cons a l ih =>
    cases ks with
    | nil=>simp [mget]
    | cons b ks =>
      simp only [List.map_cons,List.zip_cons_cons,mget]
      by_cases e:s=a
      · rw [if_pos e,if_pos e];rfl
      · rw [if_neg e,if_neg e,ih]
theorem mem_occsL {o:Occ} {t:Ty}:∀ {l:List Ty},t∈l→o∈occs t→o∈occsL l
  | [],h,_=>by simp at h
  | x::l,h,ho=>by
    rw [occsL,List.mem_append]
    rcases List.mem_cons.1 h with rfl|h
    · exact .inl ho
    · exact .inr (mem_occsL h ho)
theorem occsL_mem {o:Occ}:∀ {l:List Ty},o∈occsL l→∃ t∈l,o∈occs t
  | [],h=>by simp [occsL] at h
  | x::l,h=>by
    rw [occsL,List.mem_append] at h
    rcases h with h|h
    · exact ⟨x,List.mem_cons_self,h⟩
    · obtain ⟨t,h1,h2⟩:=occsL_mem h;exact ⟨t,List.mem_cons_of_mem _ h1,h2⟩
theorem occs_kid {o:Occ} {k:Int} {x:List UInt8} {n:Int} {l:List (List UInt8)} {ks:List Ty} {t:Ty} (h:t∈ks) (ho:o∈occs t):o∈occs (.mk k x n l ks):=by
  rw [occs,List.mem_append,List.mem_append];exact .inl (.inr (mem_occsL h ho))
theorem occs_var {x:List UInt8} {n:Int} {l:List (List UInt8)} {ks:List Ty}:(⟨n,false,[]⟩:Occ)∈occs (.mk 6 x n l ks):=by
  rw [occs,List.mem_append,List.mem_append,if_pos rfl];exact .inl (.inl zq)
theorem occs_row {x:List UInt8} {n:Int} {l:List (List UInt8)} {ks:List Ty} (h:n≠0):(⟨n,true,l⟩:Occ)∈occs (.mk 5 x n l ks):=by
  rw [occs,List.mem_append];exact .inr (by rw [if_pos ⟨rfl,h⟩];simp)
theorem occs_cases {o:Occ} {k:Int} {x:List UInt8} {n:Int} {l:List (List UInt8)} {ks:List Ty} (h:o∈occs (.mk k x n l ks)):(k=6∧o=⟨n,false,[]⟩)∨(k=5∧n≠0∧o=⟨n,true,l⟩)∨∃ t∈ks,o∈occs t:=by
  rw [occs,List.mem_append,List.mem_append] at h
  rcases h with (h|h)|h
  · split at h
    · rename_i h6;exact .inl ⟨h6,by simpa using h⟩
    · simp at h
  · exact .inr (.inr (occsL_mem h))
  · split at h
    · rename_i h5;exact .inr (.inl ⟨h5.1,h5.2,by simpa using h⟩)
    · simp at h
def okG (σ:Int→Ty) (t:Ty):Prop:=∀ o∈occs t,Gt (σ o.n)∧(o.row=true→(σ o.n).kind=5)
theorem okG.kid {σ:Int→Ty} {k:Int} {x:List UInt8} {n:Int} {l:List (List UInt8)} {ks:List Ty} (h:okG σ (.mk k x n l ks)) {t:Ty} (ht:t∈ks):okG σ t:=fun o ho=>h o (occs_kid ht ho)
theorem sub_G {σ:Int→Ty} {t:Ty} (h:Gt t):okG σ t→Gt (sub σ t):=by
  induction h with
  | leaf k x h4 h5 h6=>intro _;rw [sub_no σ x [] [] h6 (fun h=>absurd h h5)];exact .leaf k x h4 h5 h6
  | list t h ih =>
    intro ho
    rw [sub_no σ _ _ _ dq dq]
    exact .list _ (ih (ho.kid List.mem_cons_self))
  | var n h=>intro ho;rw [sub_var];exact (ho _ occs_var).1
  | rcd n ns ks h0 hs hl hk ih =>
    intro ho
    by_cases hn:n=0
    · rw [sub_no σ _ _ _ dq (fun _=>hn)]
      refine .rcd n ns _ h0 hs (by rw [List.length_map];exact hl) fun k hm=>?_
      obtain ⟨t,ht,rfl⟩:=List.mem_map.1 hm
      exact ih t ht (ho.kid ht)
    · rw [sub_row σ _ _ _ hn]
      have hg:=ho _ (occs_row hn)
      obtain ⟨s1,s2,s3,s4,s5⟩:=hg.1.sorted (hg.2 rfl)
      refine mrg_G s4 (fun k hm=>?_) s5
      obtain ⟨t,ht,rfl⟩:=List.mem_map.1 hm
      exact ih t ht (ho.kid ht)
theorem sub_kind {σ:Int→Ty} {t:Ty} (h:t.kind≠6):(sub σ t).kind=t.kind:=by
  obtain ⟨k,x,n,l,ks⟩:=t
  simp only [Ty.kind_mk] at h ⊢
  by_cases h5:k=5∧n≠0
  · rw [h5.1,sub_row σ _ _ _ h5.2];rfl
  · rw [sub_no σ _ _ _ h (fun e=>Classical.byContradiction fun hn=>h5 ⟨e,hn⟩)];rfl
theorem sub_fg {σ:Int→Ty} {t:Ty} (h:Gt t) (h5:t.kind=5) (ho:okG σ t) (s:List UInt8):fg s (sub σ t)=if t.n=0 then (fg s t).map (sub σ) else (fg s (σ t.n)).orElse fun _=>(fg s t).map (sub σ):=by
  obtain ⟨s1,s2,s3,s4,s5⟩:=h.sorted h5
  obtain ⟨k,x,n,l,ks⟩:=t
  simp only [Ty.kind_mk,Ty.names_mk,Ty.kids_mk] at h5 s1 s2 s4 s5
  subst h5
  by_cases hn:n=0
  · rw [Ty.n_mk,if_pos hn,sub_no σ _ _ _ dq (fun _=>hn)];exact fg_map σ s _ _ _ _ _ _ _ _
  · rw [Ty.n_mk,if_neg hn]
    have hg:=ho _ (occs_row hn)
    obtain ⟨r1,r2,r3,r4,r5⟩:=hg.1.sorted (hg.2 rfl)
    rw [sub_row σ _ _ _ hn,mrg_fg (a:=.mk 5 [] 0 l (ks.map (sub σ))) (lt_nodup s1) (by simpa using s2) (lt_nodup r1) r2]
    congr 1
    funext _
    exact fg_map σ s _ _ _ _ _ _ _ _
theorem sub_n {σ:Int→Ty} {t:Ty} (h5:t.kind=5):(sub σ t).n=if t.n=0 then 0 else (σ t.n).n:=by
  obtain ⟨k,x,n,l,ks⟩:=t
  simp only [Ty.kind_mk] at h5
  subst h5
  by_cases hn:n=0
  · rw [Ty.n_mk,if_pos hn,sub_no σ _ _ _ dq (fun _=>hn)];exact hn
  · rw [Ty.n_mk,if_neg hn,sub_row σ _ _ _ hn];rfl
theorem mem_occN {n:Int} {t:Ty}:n∈occN t↔∃ o∈occs t,o.n=n:=by unfold occN;rw [List.mem_map]
mutual
theorem sub_congr {σ τ:Int→Ty}:∀ (t:Ty),(∀ o∈occs t,σ o.n=τ o.n)→sub σ t=sub τ t
  | .mk k x n l ks,h=>by
    have ih:=subL_congr ks fun o ho=>h o (by rw [occs,List.mem_append,List.mem_append];exact .inl (.inr ho))
    rw [sub,sub,ih]
    by_cases h6:k=6
    · subst h6
      rw [if_pos rfl,if_pos rfl]
      exact h ⟨n,false,[]⟩ occs_var
    · rw [if_neg h6,if_neg h6]
      by_cases h5:k=5∧n≠0
      · obtain ⟨rfl,hn⟩:=h5
        rw [if_pos ⟨rfl,hn⟩,if_pos ⟨rfl,hn⟩,h ⟨n,true,l⟩ (occs_row hn)]
      · rw [if_neg h5,if_neg h5]
theorem subL_congr {σ τ:Int→Ty}:∀ (l:List Ty),(∀ o∈occsL l,σ o.n=τ o.n)→subL σ l=subL τ l
  | [],_=>rfl
  | t::l,h=>by
    rw [subL,subL,sub_congr t fun o ho=>h o (by rw [occsL,List.mem_append];exact .inl ho),subL_congr l fun o ho=>h o (by rw [occsL,List.mem_append];exact .inr ho)]
end
theorem mrg_occ {o:Occ} {a b:Ty} (h:o∈occs (mrg a b)):(o.n=b.n∧b.n≠0∧o.row=true)∨(∃ t∈a.kids,o∈occs t)∨(∃ t∈b.kids,o∈occs t):=by
  rw [← Ty.eta (mrg a b)] at h
  rcases occs_cases h with h|h|⟨t,ht,ho⟩
  · exact absurd h.1 (by rw [mrg_kind];decide)
  · exact .inl ⟨by rw [h.2.2];rfl,h.2.1,by rw [h.2.2]⟩
  · rcases mrg_kid ht with h|h
    · exact .inr (.inl ⟨t,h,ho⟩)
    · exact .inr (.inr ⟨t,h,ho⟩)
theorem occs_row' {t:Ty} (h5:t.kind=5) (hn:t.n≠0):(⟨t.n,true,t.names⟩:Occ)∈occs t:=by
  obtain ⟨k,x,n,l,ks⟩:=t
  simp only [Ty.kind_mk,Ty.n_mk] at *
  subst h5
  exact occs_row hn
theorem occs_kid' {o:Occ} {t k:Ty} (h:k∈t.kids) (ho:o∈occs k):o∈occs t:=by cases t;exact occs_kid h ho
theorem sub_occ {σ:Int→Ty} {t:Ty} (h:Gt t):okG σ t→∀ o∈occs (sub σ t),∃ p∈occs t,∃ q∈occs (σ p.n),q.n=o.n∧q.row=o.row:=by
  induction h with
  | leaf k x h4 h5 h6 =>
    intro _ o ho
    rw [sub_no σ x [] [] h6 (fun h=>absurd h h5)] at ho
    rcases occs_cases ho with h|h|⟨t,ht,_⟩
    · exact absurd h.1 h6
    · exact absurd h.1 h5
    · simp at ht
  | list t h ih =>
    intro hk o ho
    rw [sub_no σ _ _ _ dq dq] at ho
    rcases occs_cases ho with h|h|⟨t',ht,ho⟩
    · exact absurd h.1 dq
    · exact absurd h.1 dq
    · simp only [List.map_cons,List.map_nil,List.mem_singleton] at ht
      subst ht
      obtain ⟨p,hp,q,hq⟩:=ih (hk.kid List.mem_cons_self) o ho
      exact ⟨p,occs_kid List.mem_cons_self hp,q,hq⟩
  | var n h =>
    intro _ o ho
    rw [sub_var] at ho
    exact ⟨_,occs_var,o,ho,rfl,rfl⟩
  | rcd n ns ks h0 hs hl hk ih =>
    intro hkk o ho
    have kids:∀ t'∈ks.map (sub σ),o∈occs t'→∃ p∈occs (Ty.mk 5 [] n ns ks),∃ q∈occs (σ p.n),q.n=o.n∧q.row=o.row:=by
      intro t' ht' ho
      obtain ⟨t,ht,rfl⟩:=List.mem_map.1 ht'
      obtain ⟨p,hp,q,hq⟩:=ih t ht (hkk.kid ht) o ho
      exact ⟨p,occs_kid ht hp,q,hq⟩
    by_cases hn:n=0
    · rw [sub_no σ _ _ _ dq (fun _=>hn)] at ho
      rcases occs_cases ho with h|h|⟨t',ht,ho⟩
      · exact absurd h.1 dq
      · exact absurd hn h.2.1
      · exact kids t' ht ho
    · rw [sub_row σ _ _ _ hn] at ho
      have hg:=hkk _ (occs_row hn)
      rcases mrg_occ ho with h|⟨t',ht,ho⟩|⟨t',ht,ho⟩
      · exact ⟨_,occs_row hn,_,occs_row' (hg.2 rfl) h.2.1,h.1.symm,h.2.2.symm⟩
      · exact kids t' ht ho
      · exact ⟨_,occs_row hn,o,occs_kid' ht ho,rfl,rfl⟩
theorem okG_sub {σ τ:Int→Ty} {t:Ty} (h:Gt t) (ht:okG τ t) (hs:∀ o∈occs t,okG σ (τ o.n)):okG σ (sub τ t):=by
  intro o ho
  obtain ⟨p,hp,q,hq,e1,e2⟩:=sub_occ h ht o ho
  have:=hs p hp q hq
  rwa [e1,e2] at this
theorem sub_comp {σ τ:Int→Ty} {t:Ty} (h:Gt t):okG τ t→(∀ o∈occs t,okG σ (τ o.n))→sub σ (sub τ t)=sub (fun n=>sub σ (τ n)) t:=by
  induction h with
  | leaf k x h4 h5 h6 =>
    intro _ _
    rw [sub_no τ x [] [] h6 (fun h=>absurd h h5),sub_no _ x [] [] h6 (fun h=>absurd h h5)]
    exact sub_no _ x [] _ h6 (fun h=>absurd h h5)
  | list t h ih =>
    intro h1 h2
    rw [sub_no τ _ _ _ dq dq,sub_no _ _ _ _ dq dq,sub_no _ _ _ _ dq dq]
    simp only [List.map_cons,List.map_nil]
    rw [ih (h1.kid List.mem_cons_self) fun o ho=>h2 o (occs_kid List.mem_cons_self ho)]
  | var n h=>intro _ _;rw [sub_var,sub_var]
  | rcd n ns ks h0 hs hl hk ih =>
    intro h1 h2
    have kids:(ks.map (sub τ)).map (sub σ)=ks.map (sub fun n=>sub σ (τ n)):=by
      rw [List.map_map]
      exact List.map_congr_left fun t ht=>ih t ht (h1.kid ht) fun o ho=>h2 o (occs_kid ht ho)
    by_cases hn:n=0
    · rw [sub_no τ _ _ _ dq (fun _=>hn),sub_no _ _ _ _ dq (fun _=>hn),sub_no _ _ _ _ dq (fun _=>hn),kids]
    · have hG:Gt (Ty.mk 5 [] n ns ks):=.rcd n ns ks h0 hs hl hk
      have g1:=sub_G hG h1
      have g2:=okG_sub hG h1 h2
      have g3:okG (fun n=>sub σ (τ n)) (Ty.mk 5 [] n ns ks):=fun o ho=>⟨sub_G (h1 o ho).1 (h2 o ho),fun hr=>by have:=(h1 o ho).2 hr;rw [sub_kind (by rw [this];decide)];exact this⟩
      have hr:=h1 _ (occs_row hn)
      have h2r:=h2 _ (occs_row hn)
      have k1:(sub τ (Ty.mk 5 [] n ns ks)).kind=5:=by rw [sub_kind zq];rfl
      have n1:(sub τ (Ty.mk 5 [] n ns ks)).n=(τ n).n:=by rw [sub_n rfl,Ty.n_mk,if_neg hn]
      refine rec_ext (sub_G g1 g2) (sub_G hG g3) (by rw [sub_kind (by rw [k1];decide),k1]) (by rw [sub_kind zq];rfl) ?_ fun s=>?_
      · have e3:=sub_n (σ:=fun n=>sub σ (τ n)) (t:=Ty.mk 5 [] n ns ks) rfl
        rw [Ty.n_mk,if_neg hn] at e3
        rw [sub_n k1,e3,n1,sub_n (hr.2 rfl)]
      · have e:=sub_fg hG rfl h1 s
        rw [Ty.n_mk,if_neg hn] at e
        rw [sub_fg g1 k1 g2,sub_fg hG rfl g3,Ty.n_mk,if_neg hn,n1,e,sub_fg hr.1 (hr.2 rfl) h2r]
        have hm:(fg s (.mk 5 [] n ns ks)).map (sub fun n=>sub σ (τ n))=((fg s (.mk 5 [] n ns ks)).map (sub τ)).map (sub σ):=by
          cases hf:fg s (.mk 5 [] n ns ks) with
          | none=>rfl
          | some x =>
            have hx:=fg_kid hf
            simp only [Option.map_some]
            rw [ih x hx (h1.kid hx) fun o ho=>h2 o (occs_kid hx ho)]
        rw [hm]
        by_cases hb:(τ n).n=0
        · rw [if_pos hb,if_pos hb]
          cases fg s (τ n) <;> simp
        · rw [if_neg hb,if_neg hb]
          cases fg s (τ n) <;> cases fg s (σ (τ n).n) <;> simp
def idv (row:Bool) (n:Int):Ty:=if row=true then .mk 5 [] n [] [] else .mk 6 [] n [] []
theorem sub_id {σ:Int→Ty} {t:Ty} (h:Gt t):(∀ o∈occs t,σ o.n=idv o.row o.n)→sub σ t=t:=by
  induction h with
  | leaf k x h4 h5 h6=>intro _;rw [sub_no σ x [] [] h6 (fun h=>absurd h h5)];rfl
  | list t h ih =>
    intro ho
    rw [sub_no σ _ _ _ dq dq]
    simp only [List.map_cons,List.map_nil]
    rw [ih fun o h=>ho o (occs_kid List.mem_cons_self h)]
  | var n h=>intro ho;rw [sub_var];exact ho _ occs_var
  | rcd n ns ks h0 hs hl hk ih =>
    intro ho
    have kids:ks.map (sub σ)=ks:=by
      conv=>rhs;rw [← List.map_id ks]
      exact List.map_congr_left fun t ht=>ih t ht fun o h=>ho o (occs_kid ht h)
    by_cases hn:n=0
    · rw [sub_no σ _ _ _ dq (fun _=>hn),kids]
    · have e:=ho _ (occs_row hn)
      rw [sub_row σ _ _ _ hn,kids]
      have e:σ n=Ty.mk 5 [] n [] []:=e
      rw [e]
      have hG:Gt (Ty.mk 5 [] n ns ks):=.rcd n ns ks h0 hs hl hk
      refine rec_ext (mrg_G h0 hk zq) hG rfl rfl rfl fun s=>?_
      rw [mrg_fg (a:=.mk 5 [] 0 ns ks) (b:=.mk 5 [] n [] []) (lt_nodup hs) hl .nil rfl]
      rfl
def bdV (S:St) (n:Int):Option Ty:=match mget n S with
  | some x=>if x.bd=true then some x.val else none
  | none=>none
theorem bdV_some {S:St} {n:Int} {v:Ty} (h:bdV S n=some v):∃ x,mget n S=some x∧x.bd=true∧x.val=v:=by
  unfold bdV at h
  split at h
  · rename_i x hx
    split at h
    · rename_i hb;cases h;exact ⟨x,hx,hb,rfl⟩
    · cases h
  · cases h
theorem bdV_none {S:St} {n:Int} {x:Vr} (h:bdV S n=none) (hx:mget n S=some x):x.bd=false:=by
  unfold bdV at h
  rw [hx] at h
  cases hb:x.bd with
  | false=>rfl
  | true=>simp [hb] at h
theorem bdV_of {S:St} {n:Int} {x:Vr} (hx:mget n S=some x):bdV S n=if x.bd=true then some x.val else none:=by unfold bdV;rw [hx]
def tyS (S:St) (t:Ty):Prop:=Gt t∧∀ o∈occs t,∃ x,mget o.n S=some x∧x.row=o.row∧(o.row=true→x.names=o.names)
structure rwS (S:St) (L:List (List UInt8)) (t:Ty):Prop where
  gt:Gt t
  k5:t.kind=5
  kids:∀ k∈t.kids,tyS S k
  apart:∀ s∈t.names,s∉L
  row:t.n≠0→∃ x,mget t.n S=some x∧x.row=true∧∀ s,s∈x.names↔s∈L∨s∈t.names
structure Wf (S:St):Prop where
  dom:∀ n,(mget n S).isSome=true↔1≤n∧n≤(S.length:Int)
  srt:∀ n x,mget n S=some x→x.names.Pairwise (fun a b=>a<b)
  tv:∀ n x,mget n S=some x→x.bd=true→x.row=false→tyS S x.val
  rv:∀ n x,mget n S=some x→x.bd=true→x.row=true→rwS S x.names x.val
theorem Wf.zero {S:St} (h:Wf S):mget 0 S=none:=by
  cases hm:mget 0 S with
  | none=>rfl
  | some x=>have:=(h.dom 0).1 (by rw [hm];rfl);omega
theorem Gt.kid_G {t k:Ty} (h:Gt t) (hk:k∈t.kids):Gt k:=by
  cases h with
  | leaf k x h4 h5 h6=>simp at hk
  | list t h=>simp at hk;subst hk;exact h
  | var n h=>simp at hk
  | rcd n ns ks h0 hs hl hg=>exact hg _ hk
theorem tyS.kid {S:St} {t k:Ty} (h:tyS S t) (hk:k∈t.kids):tyS S k:=⟨h.1.kid_G hk,fun o ho=>h.2 o (occs_kid' hk ho)⟩
theorem tyS.toR {S:St} {t:Ty} (h:tyS S t) (h5:t.kind=5):rwS S [] t where
  gt:=h.1
  k5:=h5
  kids:=fun k hk=>h.kid hk
  apart:=fun s _=>by simp
  row:=fun hn=>by
    obtain ⟨x,h1,h2,h3⟩:=h.2 _ (occs_row' h5 hn)
    exact ⟨x,h1,h2,fun s=>by rw [h3 rfl];simp⟩
structure Sol (S:St) (σ:Int→Ty):Prop where
  gt:∀ n x,mget n S=some x→Gt (σ n)
  row:∀ n x,mget n S=some x→x.row=true→(σ n).kind=5∧∀ s∈x.names,fg s (σ n)=none
  eqs:∀ n x,mget n S=some x→x.bd=true→σ n=sub σ x.val
theorem tyS.okG {S:St} {σ:Int→Ty} {t:Ty} (h:tyS S t) (hs:Sol S σ):okG σ t:=fun o ho=>by
  obtain ⟨x,h1,h2,_⟩:=h.2 o ho
  exact ⟨hs.gt _ x h1,fun hr=>(hs.row _ x h1 (h2.trans hr)).1⟩
theorem rec_occ {o:Occ} {t:Ty} (h5:t.kind=5) (ho:o∈occs t):(t.n≠0∧o=⟨t.n,true,t.names⟩)∨∃ k∈t.kids,o∈occs k:=by
  obtain ⟨k,x,n,l,ks⟩:=t
  simp only [Ty.kind_mk] at h5
  subst h5
  rcases occs_cases ho with h|h|h
  · exact absurd h.1 dq
  · exact .inl ⟨h.2.1,h.2.2⟩
  · exact .inr h
theorem rwS.okG {S:St} {σ:Int→Ty} {t:Ty} {L:List (List UInt8)} (h:rwS S L t) (hs:Sol S σ):okG σ t:=fun o ho=>by
  rcases rec_occ h.k5 ho with ⟨hn,rfl⟩|⟨k,hk,ho⟩
  · obtain ⟨x,h1,h2,_⟩:=h.row hn
    exact ⟨hs.gt _ x h1,fun _=>(hs.row _ x h1 h2).1⟩
  · exact (h.kids k hk).okG hs o ho
theorem rwS.in {S:St} {t:Ty} {L:List (List UInt8)} (h:rwS S L t):∀ o∈occs t,∃ x,mget o.n S=some x∧x.row=o.row:=fun o ho=>by
  rcases rec_occ h.k5 ho with ⟨hn,rfl⟩|⟨k,hk,ho⟩
  · obtain ⟨x,h1,h2,_⟩:=h.row hn;exact ⟨x,h1,h2⟩
  · obtain ⟨x,h1,h2,_⟩:=(h.kids k hk).2 o ho;exact ⟨x,h1,h2⟩
inductive Dj (σ:Int→Ty):Ty→Prop
  | mk (t:Ty) (hr:t.kind=5→t.n≠0→∀ s∈t.names,fg s (σ t.n)=none) (hk:∀ k∈t.kids,Dj σ k):Dj σ t
theorem tyS.dj {S:St} {σ:Int→Ty} (hs:Sol S σ) {t:Ty} (hg:Gt t):(∀ o∈occs t,∃ x,mget o.n S=some x∧x.row=o.row∧(o.row=true→x.names=o.names))→Dj σ t:=by
  induction hg with
  | leaf k x h4 h5 h6=>intro _;exact .mk _ (fun h=>absurd h h5) zq
  | list t h ih=>intro ho;exact .mk _ zq (fun k hk=>by simp at hk;subst hk;exact ih fun o h=>ho o (occs_kid List.mem_cons_self h))
  | var n h=>intro _;exact .mk _ zq zq
  | rcd n ns ks h0 hs' hl hk ih =>
    intro ho
    refine .mk _ (fun _ hn s hs''=>?_) (fun k hk=>ih k hk fun o h=>ho o (occs_kid hk h))
    obtain ⟨x,h1,h2,h3⟩:=ho _ (occs_row hn)
    exact (hs.row _ x h1 h2).2 s (by rw [h3 rfl];exact hs'')
theorem rwS.dj {S:St} {σ:Int→Ty} (hs:Sol S σ) {t:Ty} {L:List (List UInt8)} (h:rwS S L t):Dj σ t:=by
  refine .mk _ (fun _ hn s hs'=>?_) (fun k hk=>tyS.dj hs (h.kids k hk).1 (h.kids k hk).2)
  obtain ⟨x,h1,h2,h3⟩:=h.row hn
  exact (hs.row _ x h1 h2).2 s ((h3 s).2 (.inr hs'))
theorem sub_keep {σ:Int→Ty} {t k:Ty} (hg:Gt t) (ho:okG σ t) (hd:t.kind=5→t.n≠0→∀ s∈t.names,fg s (σ t.n)=none) (h6:t.kind≠6) (hk:k∈t.kids):sub σ k∈(sub σ t).kids:=by
  cases hg with
  | leaf k x h4 h5 h6=>simp at hk
  | list t h=>simp at hk;subst hk;rw [sub_no σ _ _ _ dq dq];simp
  | var n h=>exact absurd rfl h6
  | rcd n ns ks h0 hs hl hk' =>
    by_cases hn:n=0
    · rw [sub_no σ _ _ _ dq (fun _=>hn)];exact List.mem_map_of_mem hk
    · obtain ⟨s,hf⟩:=kid_fg (t:=Ty.mk 5 [] n ns ks) (lt_nodup hs) hl hk
      have e:=sub_fg (σ:=σ) (.rcd n ns ks h0 hs hl hk') rfl ho s
      rw [Ty.n_mk,if_neg hn,hf,show fg s (σ n)=none from hd rfl hn s (fg_name hf)] at e
      exact fg_kid e
theorem sub_rowkid {σ:Int→Ty} {t k:Ty} (hg:Gt t) (ho:okG σ t) (h5:t.kind=5) (hn:t.n≠0) (hk:k∈(σ t.n).kids):k∈(sub σ t).kids:=by
  have hr:=ho _ (occs_row' h5 hn)
  obtain ⟨r1,r2,_⟩:=hr.1.sorted (hr.2 rfl)
  obtain ⟨s,hf⟩:=kid_fg (lt_nodup r1) r2 hk
  have e:=sub_fg (σ:=σ) hg h5 ho s
  rw [if_neg hn,show fg s (σ t.n)=some k from hf] at e
  exact fg_kid e
theorem Gt.occ_list {o:Occ} {t:Ty} (h:o∈occs (Ty.mk 4 [] 0 [] [t])):o∈occs t:=by
  rcases occs_cases h with h|h|⟨t',ht,ho⟩
  · exact absurd h.1 dq
  · exact absurd h.1 dq
  · simp at ht;subst ht;exact ho
theorem sub_occ_rev {σ:Int→Ty} {t:Ty} (hg:Gt t):okG σ t→Dj σ t→∀ p∈occs t,∀ q∈occs (σ p.n),q.n∈occN (sub σ t):=by
  induction hg with
  | leaf k x h4 h5 h6 =>
    intro _ _ p hp
    rcases occs_cases hp with h|h|⟨t',ht,ho⟩
    · exact absurd h.1 h6
    · exact absurd h.1 h5
    · simp at ht
  | list t h ih =>
    intro ho hd p hp q hq
    obtain ⟨_,hr,hk⟩:=hd
    have hp':=Gt.occ_list hp
    have:=ih (ho.kid List.mem_cons_self) (hk t zq) p hp' q hq
    rw [sub_no σ _ _ _ dq dq]
    obtain ⟨o,h1,h2⟩:=mem_occN.1 this
    exact mem_occN.2 ⟨o,occs_kid (t:=sub σ t) zq h1,h2⟩
  | var n h =>
    intro _ _ p hp q hq
    rcases occs_cases hp with h|h|⟨t',ht,ho⟩
    · rw [h.2] at hq;rw [sub_var];exact mem_occN.2 ⟨q,hq,rfl⟩
    · exact absurd h.1 dq
    · simp at ht
  | rcd n ns ks h0 hs hl hk ih =>
    intro ho hd p hp q hq
    obtain ⟨_,hr,hdk⟩:=hd
    have hG:Gt (Ty.mk 5 [] n ns ks):=.rcd n ns ks h0 hs hl hk
    rcases rec_occ (t:=Ty.mk 5 [] n ns ks) rfl hp with ⟨hn,rfl⟩|⟨k,hk',ho'⟩
    · have hgr:=ho _ (occs_row hn)
      rcases rec_occ (hgr.2 rfl) hq with ⟨hn',rfl⟩|⟨k,hk',ho'⟩
      · have e:=sub_n (σ:=σ) (t:=Ty.mk 5 [] n ns ks) rfl
        rw [if_neg hn] at e
        have:=occs_row' (t:=sub σ (Ty.mk 5 [] n ns ks)) (by rw [sub_kind zq];rfl) (by rw [e];exact hn')
        exact mem_occN.2 ⟨_,this,e⟩
      · have:=sub_rowkid hG ho rfl hn hk'
        exact mem_occN.2 ⟨q,occs_kid' this ho',rfl⟩
    · have:=ih k hk' (ho.kid hk') (hdk k hk') p ho' q hq
      obtain ⟨o,h1,h2⟩:=mem_occN.1 this
      exact mem_occN.2 ⟨o,occs_kid' (sub_keep hG ho hr zq hk') h1,h2⟩
mutual
def hgt:Ty→Nat
  | .mk _ _ _ _ ks=>hgtL ks
def hgtL:List Ty→Nat
  | []=>0
  | t::l=>max (hgt t+1) (hgtL l)
end
theorem hgtL_le {d:Nat}:∀ {l:List Ty},(∀ k∈l,hgt k+1≤d)→hgtL l≤d
  | [],_=>Nat.zero_le _
  | t::l,h=>by rw [hgtL];exact Nat.max_le.2 ⟨h t zq,hgtL_le fun k hk=>h k (by simp [hk])⟩
theorem hgtL_mem {k:Ty}:∀ {l:List Ty},k∈l→hgt k+1≤hgtL l
  | [],h=>by simp at h
  | t::l,h=>by
    rw [hgtL]
    rcases List.mem_cons.1 h with rfl|h
    · exact Nat.le_max_left _ _
    · exact Nat.le_trans (hgtL_mem h) (Nat.le_max_right _ _)
theorem hgt_kid {k t:Ty} (h:k∈t.kids):hgt k+1≤hgt t:=by cases t;exact hgtL_mem h
theorem hgt_le {t:Ty} {d:Nat} (h:∀ k∈t.kids,hgt k+1≤d):hgt t≤d:=by cases t;exact hgtL_le h
theorem sub_hgt {σ:Int→Ty} {t:Ty} (hg:Gt t):okG σ t→Dj σ t→∀ p∈occs t,hgt (σ p.n)≤hgt (sub σ t):=by
  induction hg with
  | leaf k x h4 h5 h6 =>
    intro _ _ p hp
    rcases occs_cases hp with h|h|⟨t',ht,ho⟩
    · exact absurd h.1 h6
    · exact absurd h.1 h5
    · simp at ht
  | list t h ih =>
    intro ho hd p hp
    obtain ⟨_,hr,hk⟩:=hd
    have:=ih (ho.kid List.mem_cons_self) (hk t zq) p (Gt.occ_list hp)
    have h2:=hgt_kid (sub_keep (σ:=σ) (.list t h) ho zq zq (k:=t) zq)
    omega
  | var n h =>
    intro _ _ p hp
    rcases occs_cases hp with h|h|⟨t',ht,ho⟩
    · rw [h.2,sub_var];exact Nat.le_refl _
    · exact absurd h.1 dq
    · simp at ht
  | rcd n ns ks h0 hs hl hk ih =>
    intro ho hd p hp
    obtain ⟨_,hr,hdk⟩:=hd
    have hG:Gt (Ty.mk 5 [] n ns ks):=.rcd n ns ks h0 hs hl hk
    rcases rec_occ (t:=Ty.mk 5 [] n ns ks) rfl hp with ⟨hn,rfl⟩|⟨k,hk',ho'⟩
    · exact hgt_le fun k hk'=>hgt_kid (sub_rowkid hG ho rfl hn hk')
    · have:=ih k hk' (ho.kid hk') (hdk k hk') p ho'
      have:=hgt_kid (sub_keep hG ho hr zq hk')
      omega
structure Rv (S:St) (ρ:Int→Ty):Prop where
  sol:Sol S ρ
  free:∀ n x,mget n S=some x→x.bd=false→ρ n=idv x.row n
  fac:∀ σ,Sol S σ→∀ n x,mget n S=some x→σ n=sub σ (ρ n)
  occ:∀ n x,mget n S=some x→∀ o∈occs (ρ n),∃ y,mget o.n S=some y∧y.row=o.row∧y.bd=false
  tail:∀ n x,mget n S=some x→x.row=true→(ρ n).n≠0→∃ y,mget (ρ n).n S=some y∧∀ s,s∈y.names↔s∈x.names∨s∈(ρ n).names
structure Pick (S:St) (τ:Int→Ty):Prop where
  gt:∀ n x,mget n S=some x→x.bd=false→Gt (τ n)
  row:∀ n x,mget n S=some x→x.bd=false→x.row=true→(τ n).kind=5∧∀ s∈x.names,fg s (τ n)=none
theorem Pick.okG {S:St} {τ:Int→Ty} (h:Pick S τ) {t:Ty} (ho:∀ o∈occs t,∃ y,mget o.n S=some y∧y.row=o.row∧y.bd=false):okG τ t:=fun o hm=>by
  obtain ⟨y,h1,h2,h3⟩:=ho o hm
  exact ⟨h.gt _ y h1 h3,fun hr=>(h.row _ y h1 h3 (h2.trans hr)).1⟩
theorem Rv.comp {S:St} {ρ τ:Int→Ty} (wf:Wf S) (h:Rv S ρ) (ht:Pick S τ):Sol S (fun n=>sub τ (ρ n)) where
  gt:=fun n x hx=>sub_G (h.sol.gt n x hx) (ht.okG (h.occ n x hx))
  row:=fun n x hx hr=>by
    have hk:=(h.sol.row n x hx hr).1
    refine ⟨by rw [sub_kind (by rw [hk];decide)];exact hk,fun s hs=>?_⟩
    have h1:=(h.sol.row n x hx hr).2 s hs
    rw [sub_fg (h.sol.gt n x hx) hk (ht.okG (h.occ n x hx)),h1]
    split
    · rfl
    · rename_i hn
      obtain ⟨y,h2,h3⟩:=h.tail n x hx hr hn
      obtain ⟨y',h2',h4,h5⟩:=h.occ n x hx _ (occs_row' hk hn)
      have h2':mget (ρ n).n S=some y':=h2'
      rw [h2] at h2'
      cases h2'
      have:=(ht.row _ y h2 h5 h4).2 s ((h3 s).2 (.inl hs))
      rw [this];rfl
  eqs:=fun n x hx hb=>by
    have hv:okG ρ x.val∧Gt x.val∧∀ o∈occs x.val,∃ y,mget o.n S=some y∧y.row=o.row:=by
      cases hr:x.row with
      | true=>have:=wf.rv n x hx hb hr;exact ⟨this.okG h.sol,this.gt,this.in⟩
      | false=>have:=wf.tv n x hx hb hr;exact ⟨this.okG h.sol,this.1,fun o ho=>by obtain ⟨y,h1,h2,_⟩:=this.2 o ho;exact ⟨y,h1,h2⟩⟩
    show sub τ (ρ n)=_
    rw [h.sol.eqs n x hx hb,sub_comp hv.2.1 hv.1]
    intro o ho
    obtain ⟨y,h1,h2⟩:=hv.2.2 o ho
    exact ht.okG (h.occ _ y h1)
theorem sub_factor {S:St} {ρ σ:Int→Ty} (h:Rv S ρ) (hs:Sol S σ) {t:Ty} (hg:Gt t) (hi:∀ o∈occs t,∃ y,mget o.n S=some y∧y.row=o.row):sub σ (sub ρ t)=sub σ t:=by
  rw [sub_comp hg (fun o ho=>by obtain ⟨y,h1,h2⟩:=hi o ho;exact ⟨h.sol.gt _ y h1,fun hr=>(h.sol.row _ y h1 (h2.trans hr)).1⟩)]
  · exact sub_congr _ fun o ho=>by obtain ⟨y,h1,h2⟩:=hi o ho;exact (h.fac σ hs _ y h1).symm
  · intro o ho p hp
    obtain ⟨y,h1,h2⟩:=hi o ho
    obtain ⟨z,h3,h4,h5⟩:=h.occ _ y h1 p hp
    exact ⟨hs.gt _ z h3,fun hr=>(hs.row _ z h3 (h4.trans hr)).1⟩
def Ext (S S':St):Prop:=∀ m x,mget m S=some x→∃ x',mget m S'=some x'∧x'.row=x.row∧x'.names=x.names
theorem Ext.refl (S:St):Ext S S:=fun _ x h=>⟨x,h,rfl,rfl⟩
theorem Ext.trans {S T U:St} (h:Ext S T) (k:Ext T U):Ext S U:=fun m x hx=>by
  obtain ⟨y,h1,h2,h3⟩:=h m x hx
  obtain ⟨z,k1,k2,k3⟩:=k m y h1
  exact ⟨z,k1,k2.trans h2,k3.trans h3⟩
theorem tyS.ext {S S':St} (he:Ext S S') {t:Ty} (h:tyS S t):tyS S' t:=⟨h.1,fun o ho=>by
  obtain ⟨x,h1,h2,h3⟩:=h.2 o ho
  obtain ⟨x',k1,k2,k3⟩:=he _ x h1
  exact ⟨x',k1,k2.trans h2,fun hr=>k3.trans (h3 hr)⟩⟩
theorem rwS.ext {S S':St} (he:Ext S S') {t:Ty} {L:List (List UInt8)} (h:rwS S L t):rwS S' L t where
  gt:=h.gt
  k5:=h.k5
  kids:=fun k hk=>(h.kids k hk).ext he
  apart:=h.apart
  row:=fun hn=>by
    obtain ⟨x,h1,h2,h3⟩:=h.row hn
    obtain ⟨x',k1,k2,k3⟩:=he _ x h1
    exact ⟨x',k1,k2.trans h2,fun s=>by rw [k3];exact h3 s⟩
structure Bnd (S S':St) (n:Int) (t:Ty):Prop where
  len:S'.length=S.length
  fw:∀ m x,mget m S=some x→∃ x',mget m S'=some x'∧x'.row=x.row∧x'.names=x.names∧(m=n→x'.bd=true∧x'.val=t)∧(m≠n→x'.bd=x.bd∧x'.val=x.val)
  bw:∀ m x',mget m S'=some x'→∃ x,mget m S=some x
theorem Bnd.ext {S S':St} {n:Int} {t:Ty} (h:Bnd S S' n t):Ext S S':=fun m x hx=>by
  obtain ⟨x',h1,h2,h3,_⟩:=h.fw m x hx;exact ⟨x',h1,h2,h3⟩
theorem Bnd.at {S S':St} {n m:Int} {t:Ty} {x':Vr} (h:Bnd S S' n t) (hx:mget m S'=some x'):∃ x,mget m S=some x∧x'.row=x.row∧x'.names=x.names∧(m=n→x'.bd=true∧x'.val=t)∧(m≠n→x'.bd=x.bd∧x'.val=x.val):=by
  obtain ⟨x,h1⟩:=h.bw m x' hx
  obtain ⟨y,h2,h3⟩:=h.fw m x h1
  rw [hx] at h2;cases h2
  exact ⟨x,h1,h3⟩
def Rk (S:St) (rk:Int→Nat):Prop:=∀ n x,mget n S=some x→x.bd=true→∀ o∈occs x.val,rk o.n<rk n
theorem idv_G {r:Bool} {n:Int} (h:0<n):Gt (idv r n):=by
  cases r
  · exact .var n h
  · exact .rcd n [] [] oq .nil rfl zq
theorem idv_occ {r:Bool} {n:Int} {o:Occ} (h:o∈occs (idv r n)):o.n=n∧o.row=r:=by
  cases r
  · rcases occs_cases (show o∈occs (.mk 6 [] n [] []) from h) with h|h|⟨t,ht,_⟩
    · rw [h.2];exact ⟨rfl,rfl⟩
    · exact absurd h.1 dq
    · simp at ht
  · rcases occs_cases (show o∈occs (.mk 5 [] n [] []) from h) with h|h|⟨t,ht,_⟩
    · exact absurd h.1 dq
    · rw [h.2.2];exact ⟨rfl,rfl⟩
    · simp at ht
theorem sub_idv {σ:Int→Ty} {r:Bool} {n:Int} (hn:n≠0) (hg:Gt (σ n)) (hr:r=true→(σ n).kind=5):sub σ (idv r n)=σ n:=by
  cases r
  · exact sub_var σ [] n [] []
  · have h5:=hr rfl
    obtain ⟨s1,s2,s3,s4,s5⟩:=hg.sorted h5
    show sub σ (.mk 5 [] n [] [])=_
    rw [sub_row σ _ _ _ hn]
    refine rec_ext (mrg_G s4 zq s5) hg rfl h5 rfl fun s=>?_
    rw [mrg_fg (a:=.mk 5 [] 0 [] (List.map (sub σ) [])) .nil rfl (lt_nodup s1) s2]
    cases fg s (σ n) <;> rfl
theorem rwS.nof {S:St} {σ:Int→Ty} {t:Ty} {L:List (List UInt8)} (h:rwS S L t) (hs:Sol S σ) {s:List UInt8} (hm:s∈L):fg s (sub σ t)=none:=by
  obtain ⟨s1,s2,_⟩:=h.gt.sorted h.k5
  have h0:fg s t=none:=(fg_none s2).2 fun hm'=>h.apart s hm' hm
  rw [sub_fg h.gt h.k5 (h.okG hs),h0]
  split
  · rfl
  · rename_i hn
    obtain ⟨y,h1,h2,h3⟩:=h.row hn
    rw [(hs.row _ y h1 h2).2 s ((h3 s).2 (.inl hm))];rfl
def rowOf (S:St) (n:Int):Bool:=match mget n S with
  | some x=>x.row
  | none=>false
theorem rowOf_at {S:St} {n:Int} {x:Vr} (h:mget n S=some x):rowOf S n=x.row:=by unfold rowOf;rw [h]
def one (S:St) (n:Int) (u:Ty):Int→Ty:=fun k=>if k=n then u else idv (rowOf S k) k
theorem val_in {S:St} (wf:Wf S) {n:Int} {x:Vr} (hx:mget n S=some x) (hb:x.bd=true):Gt x.val∧∀ o∈occs x.val,∃ y,mget o.n S=some y∧y.row=o.row:=by
  cases hr:x.row with
  | true=>have:=wf.rv n x hx hb hr;exact ⟨this.gt,this.in⟩
  | false=>have:=wf.tv n x hx hb hr;exact ⟨this.1,fun o ho=>by obtain ⟨y,h1,h2,_⟩:=this.2 o ho;exact ⟨y,h1,h2⟩⟩
def vV (S:St) (x:Vr) (t:Ty):Prop:=(x.row=false→tyS S t)∧(x.row=true→rwS S x.names t)
theorem vV.in {S:St} {x:Vr} {t:Ty} (h:vV S x t):Gt t∧∀ o∈occs t,∃ y,mget o.n S=some y∧y.row=o.row:=by
  cases hr:x.row with
  | true=>have:=h.2 hr;exact ⟨this.gt,this.in⟩
  | false=>have:=h.1 hr;exact ⟨this.1,fun o ho=>by obtain ⟨y,h1,h2,_⟩:=this.2 o ho;exact ⟨y,h1,h2⟩⟩
theorem vV.dj {S:St} {σ:Int→Ty} {x:Vr} {t:Ty} (h:vV S x t) (hs:Sol S σ):Dj σ t:=by
  cases hr:x.row with
  | true=>exact (h.2 hr).dj hs
  | false=>exact tyS.dj hs (h.1 hr).1 (h.1 hr).2
theorem Sol.okG {S:St} {σ:Int→Ty} (hs:Sol S σ) {t:Ty} (hi:∀ o∈occs t,∃ y,mget o.n S=some y∧y.row=o.row):okG σ t:=fun o ho=>by
  obtain ⟨y,h1,h2⟩:=hi o ho;exact ⟨hs.gt _ y h1,fun hr=>(hs.row _ y h1 (h2.trans hr)).1⟩
section
variable {S S':St} {n:Int} {t:Ty} {x:Vr} {ρ:Int→Ty} {rk:Int→Nat}
theorem bind_sol (wf:Wf S) (hx:mget n S=some x) (hnb:x.bd=false) (hb:Bnd S S' n t) (σ:Int→Ty):Sol S' σ↔Sol S σ∧σ n=sub σ t:=by
  constructor
  · intro h
    obtain ⟨x',h1,h2,h3,h4,_⟩:=hb.fw n x hx
    refine ⟨⟨fun m y hy=>?_,fun m y hy hr=>?_,fun m y hy hyb=>?_⟩,by have:=h.eqs n x' h1 (h4 rfl).1;rwa [(h4 rfl).2] at this⟩
    · obtain ⟨y',k1,_⟩:=hb.fw m y hy;exact h.gt m y' k1
    · obtain ⟨y',k1,k2,k3,_⟩:=hb.fw m y hy
      have:=h.row m y' k1 (k2.trans hr);rwa [k3] at this
    · obtain ⟨y',k1,k2,k3,k4,k5⟩:=hb.fw m y hy
      have hne:m≠n:=by rintro rfl;rw [hx] at hy;cases hy;rw [hnb] at hyb;cases hyb
      have:=h.eqs m y' k1 ((k5 hne).1.trans hyb);rwa [(k5 hne).2] at this
  · rintro ⟨h,he⟩
    refine ⟨fun m y' hy=>?_,fun m y' hy hr=>?_,fun m y' hy hyb=>?_⟩
    · obtain ⟨y,k1,_⟩:=hb.at hy;exact h.gt m y k1
    · obtain ⟨y,k1,k2,k3,_⟩:=hb.at hy
      have:=h.row m y k1 (k2.symm.trans hr);rwa [← k3] at this
    · obtain ⟨y,k1,k2,k3,k4,k5⟩:=hb.at hy
      by_cases e:m=n
      · subst e;rw [(k4 rfl).2];exact he
      · rw [(k5 e).2];exact h.eqs m y k1 ((k5 e).1.symm.trans hyb)
theorem bind_wf (wf:Wf S) (hx:mget n S=some x) (hv:vV S x t) (hb:Bnd S S' n t):Wf S' where
  dom:=fun m=>by
    rw [hb.len,← wf.dom m]
    constructor
    · intro h
      obtain ⟨y,hy⟩:=Option.isSome_iff_exists.1 h
      obtain ⟨z,hz⟩:=hb.bw m y hy
      rw [hz];rfl
    · intro h
      obtain ⟨y,hy⟩:=Option.isSome_iff_exists.1 h
      obtain ⟨z,hz,_⟩:=hb.fw m y hy
      rw [hz];rfl
  srt:=fun m y hy=>by
    obtain ⟨z,k1,k2,k3,_⟩:=hb.at hy
    rw [k3];exact wf.srt m z k1
  tv:=fun m y hy hyb hr=>by
    obtain ⟨z,k1,k2,k3,k4,k5⟩:=hb.at hy
    by_cases e:m=n
    · subst e;rw [hx] at k1;cases k1;rw [(k4 rfl).2];exact (hv.1 (k2.symm.trans hr)).ext hb.ext
    · rw [(k5 e).2];exact (wf.tv m z k1 ((k5 e).1.symm.trans hyb) (k2.symm.trans hr)).ext hb.ext
  rv:=fun m y hy hyb hr=>by
    obtain ⟨z,k1,k2,k3,k4,k5⟩:=hb.at hy
    by_cases e:m=n
    · subst e;rw [hx] at k1;cases k1;rw [(k4 rfl).2,k3];exact (hv.2 (k2.symm.trans hr)).ext hb.ext
    · rw [(k5 e).2,k3];exact (wf.rv m z k1 ((k5 e).1.symm.trans hyb) (k2.symm.trans hr)).ext hb.ext
theorem one_pick (wf:Wf S) (h:Rv S ρ) (hx:mget n S=some x) (hv:vV S x t):Pick S (one S n (sub ρ t)) where
  gt:=fun m y hy hb=>by
    unfold one
    split
    · exact sub_G hv.in.1 (h.sol.okG hv.in.2)
    · have:=(wf.dom m).1 (by rw [hy];rfl)
      exact idv_G oq
  row:=fun m y hy hb hr=>by
    unfold one
    split
    · rename_i e
      subst e
      rw [hx] at hy;cases hy
      have hV:=hv.2 hr
      exact ⟨by rw [sub_kind (by rw [hV.k5];decide)];exact hV.k5,fun s hs=>hV.nof h.sol hs⟩
    · rw [rowOf_at hy,hr]
      exact ⟨rfl,fun s _=>rfl⟩
theorem bind_rv (wf:Wf S) (h:Rv S ρ) (hx:mget n S=some x) (hnb:x.bd=false) (hv:vV S x t) (hb:Bnd S S' n t) (hno:n∉occN (sub ρ t)):Rv S' (fun m=>sub (one S n (sub ρ t)) (ρ m)):=by
  have hp:=one_pick wf h hx hv
  have hc:=h.comp wf hp
  have hpos:∀ m y,mget m S=some y→m≠0:=fun m y hy=>by have:=(wf.dom m).1 (by rw [hy];rfl);omega
  have hidn:∀ m y,mget m S=some y→y.bd=false→sub (one S n (sub ρ t)) (idv y.row m)=one S n (sub ρ t) m:=fun m y hy hyb =>
    sub_idv (hpos m y hy) (hp.gt m y hy hyb) (fun hr=>(hp.row m y hy hyb hr).1)
  have hone:one S n (sub ρ t) n=sub ρ t:=by unfold one;rw [if_pos rfl]
  have hocc:∀ o∈occs (sub ρ t),∃ y,mget o.n S=some y∧y.row=o.row∧y.bd=false:=by
    intro o ho
    obtain ⟨p,hp',q,hq,e1,e2⟩:=sub_occ hv.in.1 (h.sol.okG hv.in.2) o ho
    obtain ⟨y,hy,_⟩:=hv.in.2 p hp'
    have:=h.occ _ y hy q hq
    rwa [e1,e2] at this
  have hsame:sub (one S n (sub ρ t)) (sub ρ t)=sub ρ t:=sub_id (sub_G hv.in.1 (h.sol.okG hv.in.2)) fun o ho=>by
    obtain ⟨y,h1,h2,h3⟩:=hocc o ho
    have hne:o.n≠n:=fun e=>hno (mem_occN.2 ⟨o,ho,e⟩)
    unfold one
    rw [if_neg hne,rowOf_at h1,h2]
  have hsubt:sub (fun m=>sub (one S n (sub ρ t)) (ρ m)) t=sub ρ t:=by
    rw [← sub_comp hv.in.1 (h.sol.okG hv.in.2),hsame]
    intro o ho
    obtain ⟨y,h1,h2⟩:=hv.in.2 o ho
    exact hp.okG (h.occ _ y h1)
  refine ⟨(bind_sol wf hx hnb hb _).2 ⟨hc,?_⟩,?_,?_,?_,?_⟩
  · show sub (one S n (sub ρ t)) (ρ n)=_
    rw [hsubt,h.free n x hx hnb,hidn n x hx hnb,hone]
  · intro m y' hy' hyb'
    obtain ⟨y,k1,k2,k3,k4,k5⟩:=hb.at hy'
    have hne:m≠n:=by rintro rfl;rw [(k4 rfl).1] at hyb';cases hyb'
    have hyb:y.bd=false:=(k5 hne).1.symm.trans hyb'
    show sub _ (ρ m)=_
    rw [h.free m y k1 hyb,hidn m y k1 hyb]
    unfold one
    rw [if_neg hne,rowOf_at k1,k2]
  · intro σ hσ m y' hy'
    obtain ⟨hs,he⟩:=(bind_sol wf hx hnb hb σ).1 hσ
    obtain ⟨y,k1,k2,k3,k4,k5⟩:=hb.at hy'
    have ho:=h.occ m y k1
    rw [sub_comp (h.sol.gt m y k1) (hp.okG ho),h.fac σ hs m y k1]
    · refine sub_congr _ fun o hm=>?_
      obtain ⟨z,z1,z2,z3⟩:=ho o hm
      show σ o.n=sub σ (one S n (sub ρ t) o.n)
      unfold one
      split
      · rename_i e
        rw [sub_factor h hs hv.in.1 hv.in.2,e];exact he
      · rw [rowOf_at z1]
        exact (sub_idv (hpos _ z z1) (hs.gt _ z z1) (fun hr=>(hs.row _ z z1 hr).1)).symm
    · intro o hm
      obtain ⟨z,z1,z2,z3⟩:=ho o hm
      unfold one
      split
      · exact hs.okG fun p hp'=>by obtain ⟨w,w1,w2,_⟩:=hocc p hp';exact ⟨w,w1,w2⟩
      · intro p hp'
        obtain ⟨e1,e2⟩:=idv_occ hp'
        rw [e1,e2,rowOf_at z1]
        exact ⟨hs.gt _ z z1,fun hr=>(hs.row _ z z1 hr).1⟩
  · intro m y' hy' o ho
    obtain ⟨y,k1,k2,k3,k4,k5⟩:=hb.at hy'
    obtain ⟨p,hp',q,hq,e1,e2⟩:=sub_occ (h.sol.gt m y k1) (hp.okG (h.occ m y k1)) o ho
    have key:∃ z,mget q.n S=some z∧z.row=q.row∧z.bd=false∧q.n≠n:=by
      unfold one at hq
      split at hq
      · obtain ⟨z,z1,z2,z3⟩:=hocc q hq
        exact ⟨z,z1,z2,z3,fun e=>hno (mem_occN.2 ⟨q,hq,e⟩)⟩
      · rename_i hne
        obtain ⟨z,z1,z2,z3⟩:=h.occ m y k1 p hp'
        obtain ⟨f1,f2⟩:=idv_occ hq
        rw [f1,f2,rowOf_at z1]
        exact ⟨z,z1,rfl,z3,hne⟩
    obtain ⟨z,z1,z2,z3,z4⟩:=key
    obtain ⟨z',w1,w2,w3,w4,w5⟩:=hb.fw _ z z1
    rw [← e1,← e2]
    exact ⟨z',w1,w2.trans z2,(w5 z4).1.trans z3⟩
  · intro m y' hy' hr hn
    obtain ⟨y,k1,k2,k3,k4,k5⟩:=hb.at hy'
    have hr0:=k2.symm.trans hr
    have h5:=(h.sol.row m y k1 hr0).1
    have hG:=h.sol.gt m y k1
    have hO:=hp.okG (h.occ m y k1)
    have hnn:¬ (ρ m).n=0:=by
      intro e
      have:=sub_n (σ:=one S n (sub ρ t)) h5
      rw [if_pos e] at this
      exact hn this
    obtain ⟨w,w1,w2⟩:=h.tail m y k1 hr0 hnn
    obtain ⟨w',v1,v2,v3⟩:=h.occ m y k1 _ (occs_row' h5 hnn)
    have v1:mget (ρ m).n S=some w':=v1
    rw [w1] at v1;cases v1
    have hnm:=sub_n (σ:=one S n (sub ρ t)) h5
    rw [if_neg hnn] at hnm
    have hfld:∀ s,s∈(sub (one S n (sub ρ t)) (ρ m)).names↔s∈(one S n (sub ρ t) (ρ m).n).names∨s∈(ρ m).names:=by
      intro s
      have hG':=sub_G hG hO
      have h5':(sub (one S n (sub ρ t)) (ρ m)).kind=5:=by rw [sub_kind (by rw [h5];decide)];exact h5
      obtain ⟨_,a2,_⟩:=hG'.sorted h5'
      obtain ⟨_,b2,_⟩:=hG.sorted h5
      obtain ⟨_,c2,_⟩:=(hp.gt _ w w1 v3).sorted (hp.row _ w w1 v3 v2).1
      have e:=sub_fg hG h5 hO s
      rw [if_neg hnn] at e
      have ia:=fg_none (s:=s) a2
      have ib:=fg_none (s:=s) b2
      have ic:=fg_none (s:=s) c2
      rw [e] at ia
      cases hf:fg s (one S n (sub ρ t) (ρ m).n) with
      | some q =>
        rw [hf] at ia ic
        simp only [Option.orElse_some,reduceCtorEq,false_iff,Classical.not_not] at ia ic
        exact ⟨fun _=>.inl ic,fun _=>ia⟩
      | none =>
        rw [hf] at ia ic
        simp only [Option.orElse_none,Option.map_eq_none_iff,true_iff] at ia ic
        constructor
        · intro hm
          refine .inr (Classical.byContradiction fun h'=>?_)
          exact (ia.1 (ib.2 h')) hm
        · rintro (hm|hm)
          · exact absurd hm ic
          · exact Classical.byContradiction fun h'=>(ib.1 (ia.2 h')) hm
    show ∃ z,mget (sub (one S n (sub ρ t)) (ρ m)).n S'=some z∧∀ s,s∈z.names↔s∈y'.names∨s∈(sub (one S n (sub ρ t)) (ρ m)).names
    by_cases e:(ρ m).n=n
    · rw [e,hone] at hnm
      rw [e,hone] at hfld
      rw [e,hx] at w1;cases w1
      have hV:=hv.2 v2
      have hne:¬ t.n=0:=by
        intro e0
        have:=sub_n (σ:=ρ) hV.k5
        rw [if_pos e0] at this
        exact hn (hnm.trans this)
      obtain ⟨y2,a1,a2,a3⟩:=hV.row hne
      have hun:=sub_n (σ:=ρ) hV.k5
      rw [if_neg hne] at hun
      have hn2:(ρ t.n).n≠0:=fun e0=>hn (hnm.trans (hun.trans e0))
      obtain ⟨y3,b1,b2⟩:=h.tail _ y2 a1 a2 hn2
      obtain ⟨y4,c1,c2,c3,_⟩:=hb.fw _ y3 b1
      refine ⟨y4,by rw [hnm,hun];exact c1,fun s=>?_⟩
      have hfu:s∈(sub ρ t).names↔s∈(ρ t.n).names∨s∈t.names:=by
        have hG':=sub_G hV.gt (hV.okG h.sol)
        have h5':(sub ρ t).kind=5:=by rw [sub_kind (by rw [hV.k5];decide)];exact hV.k5
        obtain ⟨_,p2,_⟩:=hG'.sorted h5'
        obtain ⟨_,q2,_⟩:=hV.gt.sorted hV.k5
        obtain ⟨_,r2,_⟩:=(h.sol.gt _ y2 a1).sorted (h.sol.row _ y2 a1 a2).1
        have e:=sub_fg hV.gt hV.k5 (hV.okG h.sol) s
        rw [if_neg hne] at e
        have ia:=fg_none (s:=s) p2
        have ib:=fg_none (s:=s) q2
        have ic:=fg_none (s:=s) r2
        rw [e] at ia
        cases hf:fg s (ρ t.n) with
        | some q =>
          rw [hf] at ia ic
          simp only [Option.orElse_some,reduceCtorEq,false_iff,Classical.not_not] at ia ic
          exact ⟨fun _=>.inl ic,fun _=>ia⟩
        | none =>
          rw [hf] at ia ic
          simp only [Option.orElse_none,Option.map_eq_none_iff,true_iff] at ia ic
          constructor
          · intro hm
            refine .inr (Classical.byContradiction fun h'=>?_)
            exact (ia.1 (ib.2 h')) hm
          · rintro (hm|hm)
            · exact absurd hm ic
            · exact Classical.byContradiction fun h'=>(ib.1 (ia.2 h')) hm
      rw [c3,b2,a3,w2,k3,hfld,hfu]
      constructor
      · rintro (((h|h)|h)|h)
        · exact .inl h
        · exact .inr (.inr h)
        · exact .inr (.inl (.inr h))
        · exact .inr (.inl (.inl h))
      · rintro (h|(h|h)|h)
        · exact .inl (.inl (.inl h))
        · exact .inr h
        · exact .inl (.inr h)
        · exact .inl (.inl (.inr h))
    · have ho:one S n (sub ρ t) (ρ m).n=idv true (ρ m).n:=by unfold one;rw [if_neg e,rowOf_at w1,v2]
      rw [ho] at hnm hfld
      obtain ⟨y4,c1,c2,c3,_⟩:=hb.fw _ w w1
      refine ⟨y4,by rw [hnm];exact c1,fun s=>?_⟩
      rw [c3,w2,k3,hfld]
      have:s∉(idv true (ρ m).n).names:=by simp [idv]
      constructor
      · rintro (h|h)
        · exact .inl h
        · exact .inr (.inr h)
      · rintro (h|h|h)
        · exact .inl h
        · exact absurd h this
        · exact .inr h
theorem bind_rk (wf:Wf S) (h:Rv S ρ) (hr:Rk S rk) (hx:mget n S=some x) (hnb:x.bd=false) (hv:vV S x t) (hb:Bnd S S' n t) (hno:n∉occN (sub ρ t)):∃ rk',Rk S' rk':=by
  obtain ⟨K,hK⟩:∃ K,∀ o∈occs t,rk o.n<K:=by
    have:∀ l:List Occ,∃ K,∀ o∈l,rk o.n<K:=by
      intro l
      induction l with
      | nil=>exact ⟨0,by simp⟩
      | cons a l ih =>
        obtain ⟨K,hK⟩:=ih
        exact ⟨K+rk a.n+1,fun o ho=>by rcases List.mem_cons.1 ho with rfl|ho;omega;have:=hK o ho;omega⟩
    exact this _
  refine ⟨fun m=>rk m+(if n∈occN (ρ m) then K else 0),fun m y' hy' hyb o ho=>?_⟩
  obtain ⟨y,k1,k2,k3,k4,k5⟩:=hb.at hy'
  by_cases e:m=n
  · subst e
    rw [(k4 rfl).2] at ho
    have h1:m∈occN (ρ m):=by
      rw [h.free m x hx hnb]
      have:=(wf.dom m).1 (by rw [hx];rfl)
      cases x.row
      · exact mem_occN.2 ⟨⟨m,false,[]⟩,occs_var,rfl⟩
      · exact mem_occN.2 ⟨⟨m,true,[]⟩,occs_row oq,rfl⟩
    have h2:m∉occN (ρ o.n):=by
      intro hm
      obtain ⟨q,hq,e⟩:=mem_occN.1 hm
      exact hno (e▸sub_occ_rev hv.in.1 (h.sol.okG hv.in.2) (hv.dj h.sol) o ho q hq)
    show rk o.n+(if m∈occN (ρ o.n) then K else 0)<rk m+(if m∈occN (ρ m) then K else 0)
    rw [if_pos h1,if_neg h2]
    have:=hK o ho
    omega
  · rw [(k5 e).2] at ho
    have hyb':=(k5 e).1.symm.trans hyb
    have h1:=hr m y k1 hyb' o ho
    have h2:n∈occN (ρ o.n)→n∈occN (ρ m):=by
      intro hm
      obtain ⟨q,hq,e⟩:=mem_occN.1 hm
      rw [h.sol.eqs m y k1 hyb']
      have hi:=val_in wf k1 hyb'
      have hvv:vV S y y.val:=⟨fun hf=>wf.tv m y k1 hyb' hf,fun ht=>wf.rv m y k1 hyb' ht⟩
      exact e▸sub_occ_rev hi.1 (h.sol.okG hi.2) (hvv.dj h.sol) o ho q hq
    show rk o.n+(if n∈occN (ρ o.n) then K else 0)<rk m+(if n∈occN (ρ m) then K else 0)
    by_cases hm:n∈occN (ρ o.n)
    · rw [if_pos hm,if_pos (h2 hm)];omega
    · rw [if_neg hm];omega
end
structure New (S S':St) (v:Vr):Prop where
  len:S'.length=S.length+1
  at_:mget ((S.length+1:Nat):Int) S'=some v
  oth:∀ m:Int,m≠((S.length+1:Nat):Int)→mget m S'=mget m S
  bd:v.bd=false
  srt:v.names.Pairwise (fun a b=>a<b)
theorem Wf.fresh {S:St} (wf:Wf S):mget ((S.length+1:Nat):Int) S=none:=by
  cases hm:mget ((S.length+1:Nat):Int) S with
  | none=>rfl
  | some x=>have:=(wf.dom _).1 (by rw [hm];rfl);omega
theorem Wf.ne {S:St} (wf:Wf S) {m:Int} {x:Vr} (h:mget m S=some x):m≠((S.length+1:Nat):Int):=by
  rintro rfl;rw [wf.fresh] at h;cases h
def upd (σ:Int→Ty) (k:Int) (w:Ty):Int→Ty:=fun m=>if m=k then w else σ m
theorem upd_at (σ:Int→Ty) (k:Int) (w:Ty):upd σ k w k=w:=by unfold upd;rw [if_pos rfl]
theorem upd_ne {σ:Int→Ty} {k m:Int} {w:Ty} (h:m≠k):upd σ k w m=σ m:=by unfold upd;rw [if_neg h]
section
variable {S S':St} {v:Vr} {σ ρ:Int→Ty}
theorem New.ext (wf:Wf S) (h:New S S' v):Ext S S':=fun m x hx=>⟨x,by rw [h.oth m (wf.ne hx)];exact hx,rfl,rfl⟩
theorem New.wf (wf:Wf S) (h:New S S' v):Wf S':=by
  have he:=h.ext wf
  refine ⟨fun m=>?_,fun m x hx=>?_,fun m x hx hb hr=>?_,fun m x hx hb hr=>?_⟩
  · rw [h.len]
    by_cases e:m=((S.length+1:Nat):Int)
    · rw [e,h.at_];simp;omega
    · rw [h.oth m e,wf.dom m];omega
  · by_cases e:m=((S.length+1:Nat):Int)
    · rw [e,h.at_] at hx;cases hx;exact h.srt
    · rw [h.oth m e] at hx;exact wf.srt m x hx
  · by_cases e:m=((S.length+1:Nat):Int)
    · rw [e,h.at_] at hx;cases hx;rw [h.bd] at hb;cases hb
    · rw [h.oth m e] at hx;exact (wf.tv m x hx hb hr).ext he
  · by_cases e:m=((S.length+1:Nat):Int)
    · rw [e,h.at_] at hx;cases hx;rw [h.bd] at hb;cases hb
    · rw [h.oth m e] at hx;exact (wf.rv m x hx hb hr).ext he
theorem upd_sub (wf:Wf S) {t w:Ty} (hi:∀ o∈occs t,∃ y,mget o.n S=some y∧y.row=o.row):sub (upd σ ((S.length+1:Nat):Int) w) t=sub σ t :=
  sub_congr _ fun o ho=>by obtain ⟨y,h1,_⟩:=hi o ho;exact upd_ne (wf.ne h1)
theorem New.sol (wf:Wf S) (h:New S S' v) (hs:Sol S σ) {w:Ty} (hw:Gt w) (hr:v.row=true→w.kind=5∧∀ s∈v.names,fg s w=none):Sol S' (upd σ ((S.length+1:Nat):Int) w):=by
  refine ⟨fun m x hx=>?_,fun m x hx hxr=>?_,fun m x hx hb=>?_⟩
  · by_cases e:m=((S.length+1:Nat):Int)
    · rw [e,upd_at];exact hw
    · rw [h.oth m e] at hx;rw [upd_ne e];exact hs.gt m x hx
  · by_cases e:m=((S.length+1:Nat):Int)
    · rw [e,h.at_] at hx;cases hx;rw [e,upd_at];exact hr hxr
    · rw [h.oth m e] at hx;rw [upd_ne e];exact hs.row m x hx hxr
  · by_cases e:m=((S.length+1:Nat):Int)
    · rw [e,h.at_] at hx;cases hx;rw [h.bd] at hb;cases hb
    · rw [h.oth m e] at hx
      rw [upd_ne e,upd_sub wf (val_in wf hx hb).2]
      exact hs.eqs m x hx hb
theorem New.back (wf:Wf S) (h:New S S' v) (hs:Sol S' σ):Sol S σ :=
  ⟨fun m x hx=>hs.gt m x (by rw [h.oth m (wf.ne hx)];exact hx),fun m x hx=>hs.row m x (by rw [h.oth m (wf.ne hx)];exact hx),fun m x hx=>hs.eqs m x (by rw [h.oth m (wf.ne hx)];exact hx)⟩
theorem New.rv (wf:Wf S) (h:New S S' v) (hv:Rv S ρ):Rv S' (upd ρ ((S.length+1:Nat):Int) (idv v.row ((S.length+1:Nat):Int))):=by
  refine ⟨h.sol wf hv.sol (idv_G oq) (fun hr=>by rw [hr];exact ⟨rfl,fun s _=>rfl⟩),fun m x hx hb=>?_,fun τ hτ m x hx=>?_,fun m x hx o ho=>?_,fun m x hx hr hn=>?_⟩
  · by_cases e:m=((S.length+1:Nat):Int)
    · rw [e,h.at_] at hx;cases hx;rw [e,upd_at]
    · rw [h.oth m e] at hx;rw [upd_ne e];exact hv.free m x hx hb
  · by_cases e:m=((S.length+1:Nat):Int)
    · have hx':=hx
      rw [e,h.at_] at hx';cases hx'
      have hx2:=hx
      rw [e,upd_at]
      rw [e] at hx2
      exact (sub_idv oq (hτ.gt _ _ hx2) (fun hr=>(hτ.row _ _ hx2 hr).1)).symm
    · have hx':=hx
      rw [h.oth m e] at hx';rw [upd_ne e];exact hv.fac τ (h.back wf hτ) m x hx'
  · by_cases e:m=((S.length+1:Nat):Int)
    · rw [e,h.at_] at hx;cases hx
      rw [e,upd_at] at ho
      obtain ⟨e1,e2⟩:=idv_occ ho
      rw [e1,e2]
      exact ⟨_,h.at_,rfl,h.bd⟩
    · rw [h.oth m e] at hx;rw [upd_ne e] at ho
      obtain ⟨y,h1,h2,h3⟩:=hv.occ m x hx o ho
      exact ⟨y,by rw [h.oth _ (wf.ne h1)];exact h1,h2,h3⟩
  · by_cases e:m=((S.length+1:Nat):Int)
    · have hx':=hx
      rw [e,h.at_] at hx';cases hx'
      rw [e,upd_at,hr]
      refine ⟨_,h.at_,fun s=>?_⟩
      simp [idv]
    · have hx':=hx
      rw [h.oth m e] at hx';rw [upd_ne e] at hn ⊢
      obtain ⟨y,h1,h2⟩:=hv.tail m x hx' hr hn
      exact ⟨y,by rw [h.oth _ (wf.ne h1)];exact h1,h2⟩
theorem New.rk (wf:Wf S) (h:New S S' v) {rk:Int→Nat} (hr:Rk S rk):Rk S' rk:=fun m x hx hb o ho=>by
  by_cases e:m=((S.length+1:Nat):Int)
  · rw [e,h.at_] at hx;cases hx;rw [h.bd] at hb;cases hb
  · rw [h.oth m e] at hx;exact hr m x hx hb o ho
end
abbrev lim:Nat:=100000000
def hdV:Nat→St→Ty→Option Ty
  | 0,_,_=>none
  | f+1,S,t=>if t.kind=6 then (match bdV S t.n with
    | some v=>if v.sz<lim then hdV f S v else none
    | none=>some t) else some t
def hdR:Nat→St→Fd→Ty→Option Ty
  | 0,_,_,_=>none
  | f+1,S,l,t=>if t.sz<lim∧(addF l t).length<lim∧t.names.length=t.kids.length then (match bdV S t.n with
    | some v=>hdR f S (addF l t) v
    | none=>some (recT (addF l t) t.n)) else none
def headF (f:Nat) (S:St) (t:Ty):Option Ty:=match hdV f S t with
  | some u=>if u.kind=5 then (match bdV S u.n with
    | some _=>hdR f S [] u
    | none=>some u) else some u
  | none=>none
theorem rwS.congr {S:St} {L L':List (List UInt8)} {t:Ty} (h:rwS S L t) (e:∀ s,s∈L↔s∈L'):rwS S L' t where
  gt:=h.gt
  k5:=h.k5
  kids:=h.kids
  apart:=fun s hs hm=>h.apart s hs ((e s).2 hm)
  row:=fun hn=>by obtain ⟨x,h1,h2,h3⟩:=h.row hn;exact ⟨x,h1,h2,fun s=>by rw [h3,e]⟩
theorem addF_key {l:Fd} {t:Ty} {s:List UInt8} (hn:t.names.Nodup) (hl:t.names.length=t.kids.length):s∈(addF l t).map Prod.fst↔s∈l.map Prod.fst∨s∈t.names:=by
  rw [← mget_key,← mget_key,addF_get hn hl]
  have:=fg_none (s:=s) hl
  cases hf:fg s t with
  | some x =>
    rw [hf] at this
    simp only [reduceCtorEq,false_iff,Classical.not_not] at this
    simp [this]
  | none =>
    have:=this.1 hf
    simp [this]
section
variable {S:St} (wf:Wf S)
include wf
theorem hdV_ok:∀ (f:Nat) (t u:Ty),hdV f S t=some u→tyS S t→tyS S u∧(u.kind=6→bdV S u.n=none)∧∀ σ,Sol S σ→sub σ u=sub σ t
  | 0,t,u,h,_=>by simp [hdV] at h
  | f+1,t,u,h,ht=>by
    rw [hdV] at h
    split at h
    · rename_i h6
      split at h
      · rename_i v hv
        split at h <;> try (cases h;done)
        obtain ⟨x,h1,h2,h3⟩:=bdV_some hv
        subst h3
        have ho:(⟨t.n,false,[]⟩:Occ)∈occs t:=by rw [← Ty.eta t,h6];exact occs_var
        obtain ⟨x',k1,k2,_⟩:=ht.2 _ ho
        have k1:mget t.n S=some x':=k1
        rw [h1] at k1;cases k1
        obtain ⟨q1,q2,q3⟩:=hdV_ok f x.val u h (wf.tv _ x h1 h2 k2)
        refine ⟨q1,q2,fun σ hs=>(q3 σ hs).trans ?_⟩
        rw [← hs.eqs _ x h1 h2,← Ty.eta t,h6,sub_var];rfl
      · rename_i hn
        cases h
        exact ⟨ht,fun _=>hn,fun _ _=>rfl⟩
    · rename_i h6
      cases h
      exact ⟨ht,fun h=>absurd h h6,fun _ _=>rfl⟩
theorem hdR_ok:∀ (f:Nat) (l:Fd) (t r:Ty),hdR f S l t=some r→(l.map Prod.fst).Nodup→(∀ p∈l,tyS S p.2)→rwS S (l.map Prod.fst) t →
    tyS S r∧r.kind=5∧bdV S r.n=none∧∀ σ,Sol S σ→(sub σ r).n=(sub σ t).n∧∀ s,fg s (sub σ r)=(fg s (sub σ t)).orElse fun _=>(mget s l).map (sub σ)
  | 0,l,t,r,h,_,_,_=>by simp [hdR] at h
  | f+1,l,t,r,h,hnd,hl,ht=>by
    rw [hdR] at h
    split at h <;> try (cases h;done)
    obtain ⟨s1,s2,s3,s4,s5⟩:=ht.gt.sorted ht.k5
    have hkey:∀ s,s∈(addF l t).map Prod.fst↔s∈l.map Prod.fst∨s∈t.names:=fun s=>addF_key (lt_nodup s1) s2
    have hkids:∀ p∈addF l t,tyS S p.2:=fun p hp=>by
      rcases addF_mem hp with h|h
      · exact ht.kids _ h.2
      · exact hl p h
    split at h
    · rename_i v hv
      obtain ⟨x,h1,h2,h3⟩:=bdV_some hv
      subst h3
      have hn:t.n≠0:=by intro e;rw [e,wf.zero] at h1;cases h1
      obtain ⟨y,k1,k2,k3⟩:=ht.row hn
      rw [h1] at k1;cases k1
      have hv:=(wf.rv _ x h1 h2 k2).congr (L':=(addF l t).map Prod.fst) (fun s=>by rw [k3,hkey])
      obtain ⟨q1,q2,q3,q4⟩:=hdR_ok f (addF l t) x.val r h (addF_keys t hnd) hkids hv
      refine ⟨q1,q2,q3,fun σ hs=>?_⟩
      obtain ⟨r1,r2⟩:=q4 σ hs
      have e:=hs.eqs _ x h1 h2
      have e2:=sub_n (σ:=σ) ht.k5
      rw [if_neg hn] at e2
      refine ⟨by rw [r1,e2,e],fun s=>?_⟩
      have e3:=sub_fg ht.gt ht.k5 (ht.okG hs) s
      rw [if_neg hn,e] at e3
      rw [r2 s,e3,addF_get (lt_nodup s1) s2]
      cases fg s (sub σ x.val) <;> cases fg s t <;> simp
    · rename_i hn
      cases h
      have hg:Gt (recT (addF l t) t.n):=recT_G (addF_keys t hnd) s4 fun p hp=>(hkids p hp).1
      have hnm:∀ s,s∈(recT (addF l t) t.n).names↔s∈l.map Prod.fst∨s∈t.names:=fun s=>by rw [recT_names,(sSort_perm _).mem_iff];exact hkey s
      have hkd:∀ k∈(recT (addF l t) t.n).kids,tyS S k:=by
        intro k hk
        rw [recT_kids] at hk
        obtain ⟨s,hs,rfl⟩:=List.mem_map.1 hk
        obtain ⟨x,hx⟩:=Option.isSome_iff_exists.1 (mget_key.2 ((sSort_perm _).mem_iff.1 hs))
        rw [hx]
        exact hkids _ (mg_mem hx)
      have hv:tyS S (recT (addF l t) t.n):=by
        refine ⟨hg,fun o ho=>?_⟩
        rcases rec_occ (t:=recT (addF l t) t.n) rfl ho with ⟨h0,rfl⟩|⟨k,hk,ho⟩
        · obtain ⟨x,h1,h2,h3⟩:=ht.row h0
          refine ⟨x,h1,h2,fun _=>?_⟩
          have p1:=wf.srt _ x h1
          have p2:=(hg.sorted rfl).1
          exact List.Perm.eq_of_pairwise (le:=fun a b=>a<b) (fun a b _ _ h1 h2=>absurd (List.lt_trans h1 h2) (List.lt_irrefl _)) p1 p2
            ((List.perm_ext_iff_of_nodup (lt_nodup p1) (lt_nodup p2)).2 fun s=>by rw [h3,hnm])
        · exact (hkd k hk).2 o ho
      refine ⟨hv,rfl,hn,fun σ hs=>?_⟩
      have e1:=sub_n (σ:=σ) (t:=recT (addF l t) t.n) rfl
      have e2:=sub_n (σ:=σ) ht.k5
      refine ⟨e1.trans e2.symm,fun s=>?_⟩
      have f1:=sub_fg hg rfl (hv.okG hs) s
      have f2:=sub_fg ht.gt ht.k5 (ht.okG hs) s
      rw [f1,f2,recT_fg (addF_keys t hnd),addF_get (lt_nodup s1) s2]
      show (if t.n=0 then _ else (fg s (σ t.n)).orElse _)=_
      by_cases h0:t.n=0
      · rw [if_pos h0,if_pos h0];cases fg s t <;> simp
      · rw [if_neg h0,if_neg h0];cases fg s (σ t.n) <;> cases fg s t <;> simp
theorem head_ok {f:Nat} {t h:Ty} (hh:headF f S t=some h) (ht:tyS S t):tyS S h∧((h.kind=5∨h.kind=6)→bdV S h.n=none)∧∀ σ,Sol S σ→sub σ h=sub σ t:=by
  unfold headF at hh
  split at hh <;> try (cases hh;done)
  rename_i u hu
  obtain ⟨q1,q2,q3⟩:=hdV_ok wf f t u hu ht
  split at hh
  · rename_i h5
    split at hh
    · rename_i v hv
      obtain ⟨r1,r2,r3,r4⟩:=hdR_ok wf f [] u h hh .nil zq (q1.toR h5)
      refine ⟨r1,fun _=>r3,fun σ hs=>?_⟩
      obtain ⟨a1,a2⟩:=r4 σ hs
      rw [← q3 σ hs]
      have k1:(sub σ h).kind=5:=by rw [sub_kind (by rw [r2];decide)];exact r2
      have k2:(sub σ u).kind=5:=by rw [sub_kind (by rw [h5];decide)];exact h5
      refine rec_ext (sub_G r1.1 (r1.okG hs)) (sub_G q1.1 (q1.okG hs)) k1 k2 a1 fun s=>?_
      rw [a2 s]
      cases fg s (sub σ u) <;> simp [mget]
    · rename_i hn
      cases hh
      exact ⟨q1,fun _=>hn,q3⟩
  · rename_i h5
    cases hh
    exact ⟨q1,fun h=>q2 (h.resolve_left h5),q3⟩
end
def mapO (g:Ty→Option Ty):List Ty→Option (List Ty)
  | []=>some []
  | t::l=>match g t with
    | some r=>(match mapO g l with
      | some rs=>some (r::rs)
      | none=>none)
    | none=>none
def resF:Nat→St→Ty→Option Ty
  | 0,_,_=>none
  | f+1,S,t=>match headF f S t with
    | some h=>if h.sz<lim then (match mapO (resF f S) h.kids with
      | some ks=>some (.mk h.kind h.name h.n h.names ks)
      | none=>none) else none
    | none=>none
theorem mapO_mem {g:Ty→Option Ty}:∀ {l rs:List Ty},mapO g l=some rs→rs.length=l.length∧∀ (i:Nat) t r,l[i]?=some t→rs[i]?=some r→g t=some r
  | [],rs,h=>by simp [mapO] at h;subst h;simp
  | t::l,rs,h=>by
    rw [mapO] at h
    split at h <;> try (cases h;done)
    rename_i r hr
    split at h <;> try (cases h;done)
    rename_i rs' hrs
    cases h
    obtain ⟨h1,h2⟩:=mapO_mem hrs
    refine ⟨by simp [h1],fun i t' r' ht hr'=>?_⟩
    cases i with
    | zero=>simp at ht hr';subst ht hr';exact hr
    | succ i=>simp at ht hr';exact h2 i t' r' ht hr'
theorem sub_kids {σ:Int→Ty} {k:Int} {x:List UInt8} {n:Int} {l:List (List UInt8)} {ks ks':List Ty} (h:ks.map (sub σ)=ks'.map (sub σ)):sub σ (.mk k x n l ks)=sub σ (.mk k x n l ks'):=by
  rw [sub,sub,subL_map,subL_map,h]
theorem res_ok {S:St} (wf:Wf S):∀ (f:Nat) (t r:Ty),resF f S t=some r→tyS S t→tyS S r∧(∀ o∈occs r,bdV S o.n=none)∧(∀ σ,Sol S σ→sub σ r=sub σ t)∧(∃ h,(∀ σ,Sol S σ→sub σ h=sub σ t)∧headF (f - 1) S t=some h∧r.kind=h.kind∧r.n=h.n∧r.names=h.names)
  | 0,t,r,h,_=>by simp [resF] at h
  | f+1,t,r,h,ht=>by
    rw [resF] at h
    split at h <;> try (cases h;done)
    rename_i h' hh
    split at h <;> try (cases h;done)
    split at h <;> try (cases h;done)
    rename_i ks hks
    cases h
    obtain ⟨q1,q2,q3⟩:=head_ok wf hh ht
    obtain ⟨m1,m2⟩:=mapO_mem hks
    have key:∀ (i:Nat) t r,h'.kids[i]?=some t→ks[i]?=some r→tyS S r∧(∀ o∈occs r,bdV S o.n=none)∧(∀ σ,Sol S σ→sub σ r=sub σ t):=fun i t r h1 h2=>by
      obtain ⟨a,b,c,_⟩:=res_ok wf f t r (m2 i t r h1 h2) (q1.kid (List.mem_of_getElem? h1));exact ⟨a,b,c⟩
    have keym:∀ r∈ks,tyS S r∧(∀ o∈occs r,bdV S o.n=none):=fun r hr=>by
      obtain ⟨i,hi⟩:=List.mem_iff_getElem?.1 hr
      have hlt:i<h'.kids.length:=by rw [← m1];exact (List.getElem?_eq_some_iff.1 hi).1
      have:=key i _ r (List.getElem?_eq_getElem hlt) hi
      exact ⟨this.1,this.2.1⟩
    have hg:Gt (.mk h'.kind h'.name h'.n h'.names ks):=by
      have hgh:=q1.1
      clear hh q2 q3 key m2 hks
      cases hgh with
      | leaf k x h4 h5 h6=>simp at m1;subst m1;exact .leaf k x h4 h5 h6
      | list t h =>
        simp at m1
        obtain ⟨r,rfl⟩:=List.length_eq_one_iff.1 m1
        exact .list r (keym r zq).1.1
      | var n h=>simp at m1;subst m1;exact .var n h
      | rcd n ns ks' h0 hs hl hk=>exact .rcd n ns ks h0 hs (by rw [hl];exact m1.symm) fun k hk=>(keym k hk).1.1
    have hocc:∀ o∈occs (.mk h'.kind h'.name h'.n h'.names ks),(o∈occs h'∧o.n=h'.n∧(h'.kind=5∨h'.kind=6))∨∃ r∈ks,o∈occs r:=by
      intro o ho
      rcases occs_cases ho with h|h|h
      · refine .inl ⟨?_,by rw [h.2],.inr h.1⟩
        rw [h.2];have:=occs_var (x:=h'.name) (n:=h'.n) (l:=h'.names) (ks:=h'.kids);rw [← h.1,Ty.eta] at this;exact this
      · refine .inl ⟨?_,by rw [h.2.2],.inl h.1⟩
        rw [h.2.2];exact occs_row' h.1 h.2.1
      · exact .inr h
    refine ⟨⟨hg,fun o ho=>?_⟩,fun o ho=>?_,fun σ hs=>?_,h',q3,hh,rfl,rfl,rfl⟩
    · rcases hocc o ho with h|⟨r,hr,ho⟩
      · exact q1.2 o h.1
      · exact (keym r hr).1.2 o ho
    · rcases hocc o ho with h|⟨r,hr,ho⟩
      · rw [h.2.1];exact q2 h.2.2
      · exact (keym r hr).2 o ho
    · rw [← q3 σ hs]
      conv=>rhs;rw [← Ty.eta h']
      refine sub_kids (List.ext_getElem? fun i=>?_)
      rw [List.getElem?_map,List.getElem?_map]
      cases h1:ks[i]? with
      | none =>
        have:h'.kids[i]?=none:=by rw [List.getElem?_eq_none_iff] at h1 ⊢;omega
        rw [this]
      | some r =>
        have hlt:i<h'.kids.length:=by rw [← m1];exact (List.getElem?_eq_some_iff.1 h1).1
        rw [List.getElem?_eq_getElem hlt]
        simp only [Option.map_some,Option.some.injEq]
        exact (key i _ r (List.getElem?_eq_getElem hlt) h1).2.2 σ hs
theorem headF_self {S:St} {f:Nat} {t:Ty} (h5:t.kind=5) (hn:bdV S t.n=none):headF (f+1) S t=some t:=by
  unfold headF
  rw [hdV,if_neg oq]
  simp only [if_pos h5,hn]
theorem res_okR {S:St} (wf:Wf S) {L:List (List UInt8)} {f:Nat} {t r:Ty} (h:resF f S t=some r) (ht:rwS S L t) (hn:bdV S t.n=none):rwS S L r∧(∀ o∈occs r,bdV S o.n=none)∧(∀ σ,Sol S σ→sub σ r=sub σ t)∧r.n=t.n∧r.names=t.names:=by
  cases f with
  | zero=>simp [resF] at h
  | succ f =>
  rw [resF] at h
  split at h <;> try (cases h;done)
  rename_i h' hh
  have e:h'=t:=by
    cases f with
    | zero=>simp [headF,hdV] at hh
    | succ f=>rw [headF_self ht.k5 hn] at hh;cases hh;rfl
  subst e
  split at h <;> try (cases h;done)
  split at h <;> try (cases h;done)
  rename_i ks hks
  cases h
  obtain ⟨m1,m2⟩:=mapO_mem hks
  have key:∀ (i:Nat) t r,h'.kids[i]?=some t→ks[i]?=some r→tyS S r∧(∀ o∈occs r,bdV S o.n=none)∧(∀ σ,Sol S σ→sub σ r=sub σ t):=fun i t r h1 h2=>by
    obtain ⟨a,b,c,_⟩:=res_ok wf f t r (m2 i t r h1 h2) (ht.kids _ (List.mem_of_getElem? h1));exact ⟨a,b,c⟩
  have keym:∀ r∈ks,tyS S r∧(∀ o∈occs r,bdV S o.n=none):=fun r hr=>by
    obtain ⟨i,hi⟩:=List.mem_iff_getElem?.1 hr
    have hlt:i<h'.kids.length:=by rw [← m1];exact (List.getElem?_eq_some_iff.1 hi).1
    have:=key i _ r (List.getElem?_eq_getElem hlt) hi
    exact ⟨this.1,this.2.1⟩
  obtain ⟨s1,s2,s3,s4,s5⟩:=ht.gt.sorted ht.k5
  have h5:=ht.k5
  rw [h5,s3]
  refine ⟨⟨.rcd _ _ _ s4 s1 (by rw [s2];exact m1.symm) fun k hk=>(keym k hk).1.1,rfl,fun k hk=>(keym k hk).1,ht.apart,ht.row⟩,fun o ho=>?_,fun σ hs=>?_,rfl,rfl⟩
  · rcases rec_occ (t:=.mk 5 [] h'.n h'.names ks) rfl ho with ⟨_,rfl⟩|⟨k,hk,ho⟩
    · exact hn
    · exact (keym k hk).2 o ho
  · conv=>rhs;rw [← Ty.eta h',h5,s3]
    refine sub_kids (List.ext_getElem? fun i=>?_)
    rw [List.getElem?_map,List.getElem?_map]
    cases h1:ks[i]? with
    | none =>
      have:h'.kids[i]?=none:=by rw [List.getElem?_eq_none_iff] at h1 ⊢;omega
      rw [this]
    | some r =>
      have hlt:i<h'.kids.length:=by rw [← m1];exact (List.getElem?_eq_some_iff.1 h1).1
      rw [List.getElem?_eq_getElem hlt]
      simp only [Option.map_some,Option.some.injEq]
      exact (key i _ r (List.getElem?_eq_getElem hlt) h1).2.2 σ hs
def vB (S:St) (x:Vr) (t:Ty):Prop:=vV S x t∧(x.row=true→bdV S t.n=none)
theorem res_B {S:St} (wf:Wf S) {x:Vr} {f:Nat} {t r:Ty} (h:resF f S t=some r) (ht:vB S x t):vV S x r∧(∀ o∈occs r,bdV S o.n=none)∧(∀ σ,Sol S σ→sub σ r=sub σ t):=by
  cases hr:x.row with
  | true =>
    obtain ⟨a,b,c,_⟩:=res_okR wf h (ht.1.2 hr) (ht.2 hr)
    exact ⟨⟨fun h=>absurd (hr.symm.trans h) dq,fun _=>a⟩,b,c⟩
  | false =>
    obtain ⟨a,b,c,_⟩:=res_ok wf f t r h (ht.1.1 hr)
    exact ⟨⟨fun _=>a,fun h=>absurd (hr.symm.trans h) dq⟩,b,c⟩
theorem res_Brv {S:St} (wf:Wf S) {x:Vr} {ρ:Int→Ty} (hv:Rv S ρ) {f:Nat} {t r:Ty} (h:resF f S t=some r) (ht:vB S x t):r=sub ρ t:=by
  obtain ⟨h1,h2,h3⟩:=res_B wf h ht
  rw [← h3 ρ hv.sol]
  refine (sub_id h1.in.1 fun o ho=>?_).symm
  obtain ⟨x,k1,k2⟩:=h1.in.2 o ho
  rw [hv.free _ x k1 (bdV_none (h2 o ho) k1),k2]
theorem res_rv {S:St} (wf:Wf S) {ρ:Int→Ty} (hv:Rv S ρ) {f:Nat} {t r:Ty} (h:resF f S t=some r) (ht:tyS S t):r=sub ρ t:=by
  obtain ⟨h1,h2,h3,_⟩:=res_ok wf f t r h ht
  rw [← h3 ρ hv.sol]
  refine (sub_id h1.1 fun o ho=>?_).symm
  obtain ⟨x,k1,k2,_⟩:=h1.2 o ho
  rw [hv.free _ x k1 (bdV_none (h2 o ho) k1),k2]
end Go.Proofs.YtdikgijfekfaoaaGreatDoor
namespace Go.Proofs.YtdikgijfekfaoaaGreatDoor
open Go.Proofs.YtdikgijfekfaoaaGreatDoor.Abs
def Inv (S:St):Prop:=Wf S∧∃ ρ rk,Rv S ρ∧Rk S rk
structure Step (S S':St) (ok:Bool) (eqn:(Int→Ty)→Prop):Prop where
  inv:Inv S'
  ext:Ext S S'
  back:∀ σ,Sol S' σ→Sol S σ
  sound:ok=true→∀ σ,Sol S' σ→eqn σ
  compl:∀ σ,Sol S σ→eqn σ→ok=true∧∃ σ',Sol S' σ'∧∀ n x,mget n S=some x→σ' n=σ n
def Hn (S:St) (t:Ty):Prop:=t.kind=5∨t.kind=6→bdV S t.n=none
theorem headF_fix {S:St} {f:Nat} {t:Ty} (h:Hn S t):headF (f+1) S t=some t:=by
  by_cases h5:t.kind=5
  · exact headF_self h5 (h (.inl h5))
  · unfold headF
    rw [hdV]
    by_cases h6:t.kind=6
    · rw [if_pos h6]
      simp only [h (.inr h6),if_neg h5]
    · rw [if_neg h6]
      simp only [if_neg h5]
theorem Gt.k6 {t:Ty} (h:Gt t) (h6:t.kind=6):t.kids=[]∧t.names=[]∧t.name=[]∧0<t.n:=by
  cases h with
  | leaf k x h4 h5 h6'=>exact absurd h6 h6'
  | list t h=>exact absurd h6 zq
  | var n h=>exact ⟨rfl,rfl,rfl,h⟩
  | rcd n ns ks h0 hs hl hk=>exact absurd h6 zq
theorem res_shape {S:St} {f:Nat} {t r:Ty} (h:resF f S t=some r) (hn:Hn S t):∃ ks,r=.mk t.kind t.name t.n t.names ks:=by
  cases f with
  | zero=>simp [resF] at h
  | succ f =>
  rw [resF] at h
  split at h <;> try (cases h;done)
  rename_i h' hh
  have e:h'=t:=by
    cases f with
    | zero=>simp [headF,hdV] at hh
    | succ f=>rw [headF_fix hn] at hh;cases hh;rfl
  subst e
  split at h <;> try (cases h;done)
  split at h <;> try (cases h;done)
  cases h
  exact ⟨_,rfl⟩
def lowL (lv:Int):List Int→St→St
  | [],S=>S
  | k::ks,S=>lowL lv ks (match mget k S with
    | some w=>mset k { w with lv:=min w.lv lv } S
    | none=>S)
def bindF (f:Nat) (S:St) (n:Int) (t:Ty):Option (Bool×St):=match mget n S with
  | some v=>(match resF f S t with
    | some r=>if r.sz<lim∧(visN [] r).all (fun k=>(mget k S).isSome)=true then
        (if (visN [] r).contains n=true then some (false,S) else some (true,mset n { v with bd:=true,val:=t } (lowL v.lv (visN [] r) S))) else none
    | none=>none)
  | none=>none
theorem mset_len {κ α:Type} [DecidableEq κ] {k:κ} {v:α}:∀ {l:List (κ×α)},(mget k l).isSome=true→(mset k v l).length=l.length
  | [],h=>by simp [mget] at h
  | p::l,h=>by
    rw [mget] at h
    rw [mset]
    split
    · rfl
    · rename_i e
      rw [if_neg e] at h
      simp [mset_len h]
theorem mset_new' {κ α:Type} [DecidableEq κ] {k:κ} {v:α}:∀ {l:List (κ×α)},mget k l=none→(mset k v l).length=l.length+1
  | [],_=>rfl
  | p::l,h=>by
    rw [mget] at h
    rw [mset]
    split
    · rename_i e;rw [if_pos e] at h;cases h
    · rename_i e
      rw [if_neg e] at h
      simp [mset_new' h]
theorem lowL_get (lv:Int):∀ (ks:List Int) (S:St),(lowL lv ks S).length=S.length∧∀ m,(∀ x,mget m S=some x→∃ l,mget m (lowL lv ks S)=some { x with lv:=l })∧(∀ x,mget m (lowL lv ks S)=some x→∃ y,mget m S=some y)
  | [],S=>⟨rfl,fun m=>⟨fun x h=>⟨x.lv,h⟩,fun x h=>⟨x,h⟩⟩⟩
  | k::ks,S=>by
    rw [lowL]
    cases hk:mget k S with
    | none=>exact lowL_get lv ks S
    | some w =>
      obtain ⟨h1,h2⟩:=lowL_get lv ks (mset k { w with lv:=min w.lv lv } S)
      refine ⟨h1.trans (mset_len (by rw [hk];rfl)),fun m=>⟨fun x hx=>?_,fun x hx=>?_⟩⟩
      · by_cases e:m=k
        · subst e
          rw [hk] at hx;cases hx
          obtain ⟨l,hl⟩:=(h2 m).1 { w with lv:=min w.lv lv } (by rw [mget_mset,if_pos rfl])
          exact ⟨l,hl⟩
        · exact (h2 m).1 x (by rw [mget_mset,if_neg e];exact hx)
      · obtain ⟨y,hy⟩:=(h2 m).2 x hx
        rw [mget_mset] at hy
        split at hy
        · rename_i e;subst e;exact ⟨w,hk⟩
        · exact ⟨y,hy⟩
theorem bind_bnd {S:St} {n:Int} {t:Ty} {v:Vr} (hv:mget n S=some v) (ks:List Int):Bnd S (mset n { v with bd:=true,val:=t } (lowL v.lv ks S)) n t:=by
  obtain ⟨h1,h2⟩:=lowL_get v.lv ks S
  refine ⟨?_,fun m x hx=>?_,fun m x hx=>?_⟩
  · obtain ⟨l,hl⟩:=(h2 n).1 v hv
    rw [mset_len (by rw [hl];rfl),h1]
  · rw [mget_mset]
    by_cases e:m=n
    · subst e
      rw [hv] at hx;cases hx
      rw [if_pos rfl]
      exact ⟨_,rfl,rfl,rfl,fun _=>⟨rfl,rfl⟩,fun h=>absurd rfl h⟩
    · rw [if_neg e]
      obtain ⟨l,hl⟩:=(h2 m).1 x hx
      exact ⟨_,hl,rfl,rfl,fun h=>absurd h e,fun _=>⟨rfl,rfl⟩⟩
  · rw [mget_mset] at hx
    split at hx
    · rename_i e;subst e;exact ⟨v,hv⟩
    · exact (h2 m).2 x hx
theorem bind_step {S S':St} {f:Nat} {n:Int} {t:Ty} {x:Vr} {ok:Bool} (h:bindF f S n t=some (ok,S')) (hi:Inv S) (hx:mget n S=some x) (hb:x.bd=false) (hv:vV S x t) (hn:Hn S t)
    (hne:t.kind=6→t.n≠n) (hnr:x.row=true→t.n≠n):Step S S' ok (fun σ=>σ n=sub σ t):=by
  obtain ⟨wf,ρ,rk,hρ,hrk⟩:=hi
  unfold bindF at h
  rw [hx] at h
  simp only at h
  split at h <;> try (cases h;done)
  rename_i r hr
  have hvB:vB S x t:=⟨hv,fun h=>hn (.inl (hv.2 h).k5)⟩
  obtain ⟨q1,q2,q3⟩:=res_B wf hr hvB
  have hrr:=res_Brv wf hρ hr hvB
  split at h <;> try (cases h;done)
  split at h
  · rename_i hc
    cases h
    have hm:n∈occN r:=mem_visN.1 (List.contains_iff_mem.1 hc)
    refine ⟨⟨wf,ρ,rk,hρ,hrk⟩,Ext.refl _,fun _ h=>h,fun h=>absurd h dq,fun σ hs he=>?_⟩
    exfalso
    obtain ⟨ks,rfl⟩:=res_shape hr hn
    obtain ⟨o,ho,e⟩:=mem_occN.1 hm
    have hin:=q1.in.2 o ho
    rcases occs_cases ho with h|h|⟨k,hk,ho'⟩
    · exact hne h.1 (by rw [h.2] at e;exact e)
    · by_cases hrow:x.row=true
      · exact hnr hrow (by rw [h.2.2] at e;exact e)
      · obtain ⟨y,y1,y2⟩:=hin
        rw [e,hx] at y1;cases y1
        rw [h.2.2] at y2
        exact hrow y2
    · have hg:=q1.in.1
      have hok:=hs.okG q1.in.2
      have hd:=q1.dj hs
      have hnk:∀ o∈occs k,o∈occs (Ty.mk t.kind t.name t.n t.names ks):=fun o ho=>occs_kid hk ho
      obtain ⟨_,hd1,hd2⟩:=hd
      have h1:=sub_hgt (hg.kid_G (k:=k) hk) (fun o ho=>hok o (hnk o ho)) (hd2 k hk) o ho'
      have h6:t.kind≠6:=by
        intro h6
        have:=(hg.k6 h6).1
        rw [show ks=[] from this] at hk
        simp at hk
      have h2:=hgt_kid (sub_keep hg hok hd1 h6 hk)
      rw [e] at h1
      have h3:=q3 σ hs
      have he:σ n=sub σ t:=he
      rw [h3,← he] at h2
      omega
  · rename_i hc
    cases h
    have hno:n∉occN (sub ρ t):=by rw [← hrr];intro hm;exact hc (List.contains_iff_mem.2 (mem_visN.2 hm))
    have hB:=bind_bnd (t:=t) hx (visN [] r)
    obtain ⟨rk',hrk'⟩:=bind_rk wf hρ hrk hx hb hv hB hno
    exact ⟨⟨bind_wf wf hx hv hB,_,rk',bind_rv wf hρ hx hb hv hB hno,hrk'⟩,hB.ext,fun σ h=>((bind_sol wf hx hb hB σ).1 h).1,fun _ σ h=>((bind_sol wf hx hb hB σ).1 h).2,
      fun σ hs he=>⟨rfl,σ,(bind_sol wf hx hb hB σ).2 ⟨hs,he⟩,fun _ _ _=>rfl⟩⟩
theorem Step.then {S T U:St} {ok:Bool} {e1 e2:(Int→Ty)→Prop} (h:Step S T true e1) (k:Step T U ok e2) (hc:∀ σ,Sol T σ→∀ τ,(∀ n x,mget n S=some x→σ n=τ n)→Sol S τ→e1 τ→e2 τ→e2 σ):Step S U ok (fun σ=>e1 σ∧e2 σ) where
  inv:=k.inv
  ext:=h.ext.trans k.ext
  back:=fun σ hs=>h.back σ (k.back σ hs)
  sound:=fun ho σ hs=>⟨h.sound rfl σ (k.back σ hs),k.sound ho σ hs⟩
  compl:=fun σ hs he=>by
    obtain ⟨_,σ1,h1,h2⟩:=h.compl σ hs he.1
    obtain ⟨k1,σ2,k2,k3⟩:=k.compl σ1 h1 (hc σ1 h1 σ h2 hs he.1 he.2)
    refine ⟨k1,σ2,k2,fun n x hx=>?_⟩
    obtain ⟨x',hx',_⟩:=h.ext n x hx
    rw [k3 n x' hx',h2 n x hx]
def onT (a b:Ty) (n:Int):Ty:=recT (onL a b a.names.length) n
theorem onL_get {t u:Ty} {s:List UInt8} {x:Ty} (hnd:t.names.Nodup) (hl:t.names.length=t.kids.length):∀ k,k≤t.names.length→(mget s (onL t u k)=some x↔s∉u.names∧∃ i,i<k∧t.names.getD i []=s∧t.kids.getD i Ty.zero=x)
  | 0,_=>by simp [onL,mget]
  | k+1,hk=>by
    have ih:=onL_get (s:=s) (x:=x) (u:=u) hnd hl k oq
    rw [onL]
    have hlast:∀ i,i<k+1→i<k∨i=k:=fun i hi=>by omega
    by_cases hc:u.names.contains (t.names.getD k [])=true
    · rw [if_pos hc,ih]
      have hc':=List.contains_iff_mem.1 hc
      constructor
      · rintro ⟨h1,i,hi,h2⟩;exact ⟨h1,i,by omega,h2⟩
      · rintro ⟨h1,i,hi,h2,h3⟩
        rcases hlast i hi with h|h
        · exact ⟨h1,i,h,h2,h3⟩
        · subst h;rw [h2] at hc';exact absurd hc' h1
    · rw [if_neg hc,mget_mset]
      by_cases e:s=t.names.getD k []
      · rw [if_pos e]
        constructor
        · intro h;cases h
          exact ⟨fun hm=>hc (List.contains_iff_mem.2 (e▸hm)),k,by omega,e.symm,rfl⟩
        · rintro ⟨h1,i,hi,h2,h3⟩
          rcases hlast i hi with h|h
          · exfalso
            have hk':k<t.names.length:=by omega
            have hi':i<t.names.length:=by omega
            rw [e,List.getD_eq_getElem?_getD,List.getD_eq_getElem?_getD,List.getElem?_eq_getElem hk',List.getElem?_eq_getElem hi'] at h2
            have:=(List.getElem_inj hnd).1 (show t.names[i]=t.names[k] from h2)
            omega
          · subst h;rw [h3]
      · rw [if_neg e,ih]
        constructor
        · rintro ⟨h1,i,hi,h2⟩;exact ⟨h1,i,by omega,h2⟩
        · rintro ⟨h1,i,hi,h2,h3⟩
          rcases hlast i hi with h|h
          · exact ⟨h1,i,h,h2,h3⟩
          · subst h;exact absurd h2.symm e
theorem fg_idx {s:List UInt8} {t x:Ty} (hnd:t.names.Nodup) (hl:t.names.length=t.kids.length):fg s t=some x↔∃ i,i<t.names.length∧t.names.getD i []=s∧t.kids.getD i Ty.zero=x:=by
  constructor
  · intro h
    obtain ⟨i,hi,e⟩:=List.getElem_of_mem (mg_mem h)
    rw [List.getElem_zip] at e
    rw [List.length_zip] at hi
    have e':=Prod.mk.inj e
    refine ⟨i,by omega,?_,?_⟩
    · rw [List.getD_eq_getElem?_getD,List.getElem?_eq_getElem oq];exact e'.1
    · rw [List.getD_eq_getElem?_getD,List.getElem?_eq_getElem oq];exact e'.2
  · rintro ⟨i,hi,rfl,rfl⟩
    have hz:i<(t.names.zip t.kids).length:=by rw [List.length_zip];omega
    have hm:=List.getElem_mem hz
    rw [List.getElem_zip] at hm
    rw [List.getD_eq_getElem?_getD,List.getD_eq_getElem?_getD,List.getElem?_eq_getElem hi,List.getElem?_eq_getElem (by omega:i<t.kids.length)]
    exact mg_of (by rw [zip_fst' hl];exact hnd) hm
theorem onT_fg {a b:Ty} {n:Int} (hnd:a.names.Nodup) (hl:a.names.length=a.kids.length) (s:List UInt8):fg s (onT a b n)=if s∈b.names then none else fg s a:=by
  unfold onT
  rw [recT_fg (onL_keys a b _).1]
  have h:=fun x=>onL_get (s:=s) (x:=x) (u:=b) hnd hl a.names.length (Nat.le_refl _)
  have h2:=fun x=>fg_idx (s:=s) (x:=x) hnd hl
  split
  · rename_i hm
    cases hg:mget s (onL a b a.names.length) with
    | none=>rfl
    | some x=>exact absurd hm ((h x).1 hg).1
  · rename_i hm
    cases hf:fg s a with
    | some x=>exact (h x).2 ⟨hm,(h2 x).1 hf⟩
    | none =>
      cases hg:mget s (onL a b a.names.length) with
      | none=>rfl
      | some x =>
        have:=(h2 x).2 ((h x).1 hg).2
        rw [hf] at this;cases this
theorem onT_kid {a b k:Ty} {n:Int} (hnd:a.names.Nodup) (hl:a.names.length=a.kids.length) (h:k∈(onT a b n).kids):k∈a.kids:=by
  unfold onT at h
  rw [recT_kids] at h
  obtain ⟨s,hs,rfl⟩:=List.mem_map.1 h
  obtain ⟨x,hx⟩:=Option.isSome_iff_exists.1 (mget_key.2 ((sSort_perm _).mem_iff.1 hs))
  rw [hx]
  obtain ⟨i,hi,_,e⟩:=((onL_get hnd hl _ (Nat.le_refl _)).1 hx).2
  have hi':i<a.kids.length:=by omega
  rw [List.getD_eq_getElem?_getD,List.getElem?_eq_getElem hi'] at e
  rw [Option.getD_some,← e]
  exact List.getElem_mem hi'
theorem onT_G {a b:Ty} {n:Int} (hnd:a.names.Nodup) (hl:a.names.length=a.kids.length) (h0:0≤n) (hk:∀ k∈a.kids,Gt k):Gt (onT a b n):=by
  refine recT_G (onL_keys a b _).1 h0 fun p hp=>?_
  have:=mg_of (onL_keys a b a.names.length).1 (k:=p.1) (x:=p.2) hp
  obtain ⟨i,hi,_,e⟩:=((onL_get hnd hl _ (Nat.le_refl _)).1 this).2
  have hi':i<a.kids.length:=by omega
  rw [List.getD_eq_getElem?_getD,List.getElem?_eq_getElem hi'] at e
  rw [← e]
  exact hk _ (List.getElem_mem hi')
theorem onT_names {a b:Ty} {n:Int} (hnd:a.names.Nodup) (hl:a.names.length=a.kids.length) (s:List UInt8):s∈(onT a b n).names↔s∈a.names∧s∉b.names:=by
  have hl':(onT a b n).names.length=(onT a b n).kids.length:=by unfold onT;rw [recT_names,recT_kids,List.length_map]
  have h1:=fg_none (s:=s) hl'
  have h2:=fg_none (s:=s) hl
  rw [onT_fg hnd hl] at h1
  by_cases hb:s∈b.names
  · rw [if_pos hb] at h1
    exact ⟨fun h=>absurd h (h1.1 rfl),fun h=>absurd hb h.2⟩
  · rw [if_neg hb] at h1
    rw [h1] at h2
    by_cases ha:s∈a.names
    · exact ⟨fun _=>⟨ha,hb⟩,fun _=>Classical.byContradiction fun h=>(h2.1 h) ha⟩
    · exact ⟨fun h=>absurd h (h2.2 ha),fun h=>absurd h.1 ha⟩
abbrev Dn:=List (List UInt8×Bool)
abbrev UF:=St→Ty→Ty→Option (Bool×St)
def isD (D:Dn) (s:List UInt8):Bool:=match mget s D with
  | some b=>b
  | none=>false
def passF (U:UF) (b:Ty):List (List UInt8)→List Ty→St→Dn→Bool→Option (Bool×St×Dn×Bool)
  | s::ns,k::ks,S,D,ag=>if idxS b.names s<0∨isD D s=true then passF U b ns ks S D ag else (match U S k (b.kids.getD (idxS b.names s).toNat Ty.zero) with
    | some (true,S')=>passF U b ns ks S' (mset s true D) true
    | some (false,S')=>some (false,S',mset s true D,true)
    | none=>none)
  | _,_,S,D,ag=>some (true,S,D,ag)
def rok (t:Ty):Prop:=t.sz<lim∧t.names.length=t.kids.length
instance (t:Ty):Decidable (rok t):=inferInstanceAs (Decidable (_∧_))
def loopF (f:Nat) (U:UF):Nat→St→Ty→Ty→Dn→Option (Bool×St×Ty×Ty)
  | 0,_,_,_,_=>none
  | g+1,S,a,b,D=>match headF f S a with
    | some a'=>(match headF f S b with
      | some b'=>if rok a'∧rok b' then (match passF U b' a'.names a'.kids S D false with
        | some (true,S',D',true)=>loopF f U g S' a' b' D'
        | some (true,S',_,false)=>some (true,S',a',b')
        | some (false,S',_,_)=>some (false,S',a',b')
        | none=>none) else none
      | none=>none)
    | none=>none
def uniF (l:List (List UInt8)):Dn:=l.foldl (fun m x=>mset x true m) []
def uniN (a b:Ty):List (List UInt8):=sSort ((uniF (a.names++b.names)).map Prod.fst)
def lvOf (S:St) (n:Int):Int:=match mget n S with
  | some x=>x.lv
  | none=>0
def newV (S:St) (a b:Ty):St:=mset ((S.length+1:Nat):Int) ⟨true,min (lvOf S a.n) (lvOf S b.n),false,Ty.zero,uniN a b⟩ S
def finF (f:Nat) (S:St) (a b:Ty):Option (Bool×St) :=
  if (onT a b b.n).sz<lim∧(onT b a a.n).sz<lim then
  (if a.n=b.n then some (decide ((onT a b b.n).names.length+(onT b a a.n).names.length=0),S)
  else if (0<(onT a b b.n).names.length∧b.n=0)∨(0<(onT b a a.n).names.length∧a.n=0) then some (false,S)
  else if (onT a b b.n).names.length=0∧a.n≠0 then bindF f S a.n (onT b a b.n)
  else if (onT b a a.n).names.length=0 then bindF f S b.n (onT a b a.n)
  else if S.length<lim∧(mget a.n S).isSome=true∧(mget b.n S).isSome=true then (match bindF f (newV S a b) a.n (onT b a ((S.length+1:Nat):Int)) with
    | some (true,S2)=>bindF f S2 b.n (onT a b ((S.length+1:Nat):Int))
    | some (false,S2)=>some (false,S2)
    | none=>none) else none) else none
def rowsF (f:Nat) (U:UF) (S:St) (a b:Ty):Option (Bool×St):=match loopF f U f S a b [] with
  | some (true,S',a',b')=>finF f S' a' b'
  | some (false,S',_,_)=>some (false,S')
  | none=>none
def unifyF:Nat→St→Ty→Ty→Option (Bool×St)
  | 0,_,_,_=>none
  | f+1,S,a,b=>match headF f S a with
    | some a'=>(match headF f S b with
      | some b'=>if a'.sz<lim∧b'.sz<lim then
          (if a'.kind=6∧b'.kind=6∧a'.n=b'.n then some (true,S)
          else if a'.kind=6 then bindF f S a'.n b'
          else if b'.kind=6 then bindF f S b'.n a'
          else if a'.kind≠b'.kind∨a'.name≠b'.name then some (false,S)
          else if a'.kind=5 then rowsF f (unifyF f) S a' b'
          else if a'.kind=4 then (if 0<a'.kids.length∧0<b'.kids.length then unifyF f S (a'.kids.getD 0 Ty.zero) (b'.kids.getD 0 Ty.zero) else none)
          else some (true,S)) else none
      | none=>none)
    | none=>none
theorem tyS.n0 {S:St} {a:Ty} (h:tyS S a) (h5:a.kind=5):0≤a.n:=(h.1.sorted h5).2.2.2.1
theorem tyS.var {S:St} {a:Ty} (h:tyS S a) (h5:a.kind=5) (hn:a.n≠0):∃ x,mget a.n S=some x∧x.row=true∧x.names=a.names:=by
  obtain ⟨x,h1,h2,h3⟩:=h.2 _ (occs_row' h5 hn)
  exact ⟨x,h1,h2,h3 rfl⟩
def rest (σ:Int→Ty) (a:Ty) (s:List UInt8):Option Ty:=if a.n=0 then none else fg s (σ a.n)
theorem rest_in {S:St} {σ:Int→Ty} {a:Ty} (h:tyS S a) (h5:a.kind=5) (hs:Sol S σ) {s:List UInt8} (hm:s∈a.names):rest σ a s=none:=by
  unfold rest
  split
  · rfl
  · rename_i hn
    obtain ⟨x,h1,h2,h3⟩:=h.var h5 hn
    exact (hs.row _ x h1 h2).2 s (by rw [h3];exact hm)
theorem tyS.field {S:St} {σ:Int→Ty} {a:Ty} (h:tyS S a) (h5:a.kind=5) (hs:Sol S σ) (s:List UInt8):fg s (sub σ a)=(rest σ a s).orElse fun _=>(fg s a).map (sub σ):=by
  rw [sub_fg h.1 h5 (h.okG hs)]
  unfold rest
  split
  · rfl
  · rfl
theorem tyS.field1 {S:St} {σ:Int→Ty} {a k:Ty} (h:tyS S a) (h5:a.kind=5) (hs:Sol S σ) {s:List UInt8} (hf:fg s a=some k):fg s (sub σ a)=some (sub σ k):=by
  rw [h.field h5 hs,rest_in h h5 hs (fg_name hf),hf];rfl
theorem tyS.field0 {S:St} {σ:Int→Ty} {a:Ty} (h:tyS S a) (h5:a.kind=5) (hs:Sol S σ) {s:List UInt8} (hm:s∉a.names):fg s (sub σ a)=rest σ a s:=by
  rw [h.field h5 hs,(fg_none (h.1.sorted h5).2.1).2 hm];cases rest σ a s <;> rfl
theorem tyS.tail {S:St} {σ:Int→Ty} {a:Ty} (_:tyS S a) (h5:a.kind=5):(sub σ a).n=if a.n=0 then 0 else (σ a.n).n:=sub_n h5
theorem onT_vR {S:St} {a b:Ty} {n:Int} (ha:tyS S a) (h5:a.kind=5) (h0:0≤n) (hr:n≠0→∃ x,mget n S=some x∧x.row=true∧∀ s,s∈x.names↔s∈b.names∨s∈a.names):rwS S b.names (onT a b n):=by
  obtain ⟨s1,s2,s3,s4,s5⟩:=ha.1.sorted h5
  refine ⟨onT_G (lt_nodup s1) s2 h0 s5,rfl,fun k hk=>ha.kid (onT_kid (lt_nodup s1) s2 hk),fun s hs=>((onT_names (lt_nodup s1) s2 s).1 hs).2,fun hn=>?_⟩
  obtain ⟨x,h1,h2,h3⟩:=hr hn
  refine ⟨x,h1,h2,fun s=>?_⟩
  rw [h3,onT_names (lt_nodup s1) s2]
  by_cases hb:s∈b.names <;> simp [hb]
theorem onT_field {S:St} {σ:Int→Ty} {a b:Ty} {n:Int} (ha:tyS S a) (h5:a.kind=5) (hs:Sol S σ) (hv:rwS S b.names (onT a b n)) (s:List UInt8) :
    fg s (sub σ (onT a b n))=if n=0 then (if s∈b.names then none else (fg s a).map (sub σ)) else (fg s (σ n)).orElse fun _=>if s∈b.names then none else (fg s a).map (sub σ):=by
  obtain ⟨s1,s2,_⟩:=ha.1.sorted h5
  rw [sub_fg hv.gt rfl (hv.okG hs),onT_fg (lt_nodup s1) s2]
  show (if n=0 then _ else (fg s (σ n)).orElse _)=_
  by_cases hb:s∈b.names
  · rw [if_pos hb,if_pos hb];rfl
  · rw [if_neg hb,if_neg hb]
theorem ext5 {S:St} {σ:Int→Ty} {a b:Ty} (ha:tyS S a) (hb:tyS S b) (ka:a.kind=5) (kb:b.kind=5) (hs:Sol S σ) (hn:(sub σ a).n=(sub σ b).n) (hf:∀ s,fg s (sub σ a)=fg s (sub σ b)):sub σ a=sub σ b :=
  rec_ext (sub_G ha.1 (ha.okG hs)) (sub_G hb.1 (hb.okG hs)) (by rw [sub_kind (by rw [ka];decide)];exact ka) (by rw [sub_kind (by rw [kb];decide)];exact kb) hn hf
theorem eq_less {S:St} {a b:Ty} (ha:tyS S a) (hb:tyS S b) (ka:a.kind=5) (kb:b.kind=5) (hsub:∀ s∈a.names,s∈b.names) (hn:a.n≠0) (hv:rwS S a.names (onT b a b.n)) {σ:Int→Ty} (hs:Sol S σ)
    (hcom:∀ s x y,fg s a=some x→fg s b=some y→sub σ x=sub σ y):σ a.n=sub σ (onT b a b.n)↔sub σ a=sub σ b:=by
  obtain ⟨x,h1,h2,h3⟩:=ha.var ka hn
  obtain ⟨a1,a2,_⟩:=ha.1.sorted ka
  obtain ⟨b1,b2,_⟩:=hb.1.sorted kb
  have hr:=hs.row _ x h1 h2
  have hg:=hs.gt _ x h1
  have hGo:=sub_G hv.gt (hv.okG hs)
  have hko:(sub σ (onT b a b.n)).kind=5:=by rw [sub_kind (by rw [hv.k5];decide)];rfl
  have hno:(sub σ (onT b a b.n)).n=(sub σ b).n:=by
    rw [hb.tail kb]
    exact sub_n (σ:=σ) (t:=onT b a b.n) rfl
  have hna:(sub σ a).n=(σ a.n).n:=by rw [ha.tail ka,if_neg hn]
  have ho:∀ s,s∉a.names→fg s (sub σ (onT b a b.n))=fg s (sub σ b):=by
    intro s hm
    rw [onT_field hb kb hs hv,if_neg hm,hb.field kb hs]
    unfold rest
    split
    · rfl
    · rfl
  constructor
  · intro e
    refine ext5 ha hb ka kb hs (by rw [hna,e,hno]) fun s=>?_
    by_cases hm:s∈a.names
    · obtain ⟨k,hk⟩:=fg_some a2 hm
      obtain ⟨k',hk'⟩:=fg_some b2 (hsub s hm)
      rw [ha.field1 ka hs hk,hb.field1 kb hs hk',hcom s k k' hk hk']
    · rw [ha.field0 ka hs hm,← ho s hm,← e]
      unfold rest
      rw [if_neg hn]
  · intro e
    refine rec_ext hg hGo hr.1 hko (by rw [← hna,e,hno]) fun s=>?_
    by_cases hm:s∈a.names
    · rw [hr.2 s (by rw [h3];exact hm),hv.nof hs hm]
    · rw [ho s hm,← e,ha.field0 ka hs hm]
      unfold rest
      rw [if_neg hn]
theorem Hn_of {S:St} {t:Ty} (h5:t.kind=5) (hn:bdV S t.n=none):Hn S t:=fun _=>hn
theorem names_nil {a b:Ty} {n:Int} (hnd:a.names.Nodup) (hl:a.names.length=a.kids.length) (h:(onT a b n).names.length=0):∀ s∈a.names,s∈b.names:=fun s hs =>
  Classical.byContradiction fun hb=>by
    have:=(onT_names (b:=b) (n:=n) hnd hl s).2 ⟨hs,hb⟩
    rw [List.eq_nil_of_length_eq_zero h] at this
    simp at this
theorem names_pos {a b:Ty} {n:Int} (hnd:a.names.Nodup) (hl:a.names.length=a.kids.length) (h:0<(onT a b n).names.length):∃ s,s∈a.names∧s∉b.names:=by
  obtain ⟨s,hs⟩:=List.exists_mem_of_length_pos h
  exact ⟨s,(onT_names hnd hl s).1 hs⟩
theorem uni_keys:∀ (l:List (List UInt8)) (m:Dn),(m.map Prod.fst).Nodup→((l.foldl (fun m x=>mset x true m) m).map Prod.fst).Nodup∧∀ s,s∈(l.foldl (fun m x=>mset x true m) m).map Prod.fst↔s∈m.map Prod.fst∨s∈l
  | [],m,h=>⟨h,fun s=>by simp⟩
  | x::l,m,h=>by
    have hk:∀ m:Dn,(mset x true m).map Prod.fst=if x∈m.map Prod.fst then m.map Prod.fst else m.map Prod.fst++[x]:=by
      intro m
      induction m with
      | nil=>simp [mset]
      | cons p m ih =>
        rw [mset]
        by_cases e:x=p.1
        · rw [if_pos e,if_pos (by rw [List.map_cons];exact List.mem_cons.2 (.inl e))];simp [e]
        · rw [if_neg e,List.map_cons,ih,List.map_cons]
          by_cases hm:x∈m.map Prod.fst
          · rw [if_pos hm,if_pos (List.mem_cons_of_mem _ hm)]
          · rw [if_neg hm,if_neg (by simp only [List.mem_cons,not_or];exact ⟨e,hm⟩)];rfl
    rw [List.foldl_cons]
    have hnd:((mset x true m).map Prod.fst).Nodup:=by
      rw [hk]
      split
      · exact h
      · rename_i hm
        rw [List.nodup_append]
        exact ⟨h,by simp,fun a ha b hb=>by simp only [List.mem_singleton] at hb;subst hb;rintro rfl;exact hm ha⟩
    obtain ⟨h1,h2⟩:=uni_keys l _ hnd
    refine ⟨h1,fun s=>?_⟩
    rw [h2,hk]
    split
    · rename_i hm
      simp only [List.mem_cons]
      constructor
      · rintro (h|h)
        · exact .inl h
        · exact .inr (.inr h)
      · rintro (h|rfl|h)
        · exact .inl h
        · exact .inl hm
        · exact .inr h
    · simp only [List.mem_append,List.mem_singleton,List.mem_cons,or_assoc,List.not_mem_nil,or_false]
theorem uniN_mem (a b:Ty) (s:List UInt8):s∈uniN a b↔s∈a.names∨s∈b.names:=by
  unfold uniN uniF
  rw [(sSort_perm _).mem_iff,(uni_keys _ [] zq).2]
  simp
theorem uniN_lt (a b:Ty):(uniN a b).Pairwise (fun a b=>a<b):=sSort_lt (uni_keys _ [] zq).1
theorem newV_new {S:St} (wf:Wf S) (a b:Ty):∃ v,New S (newV S a b) v∧v.row=true∧v.names=uniN a b:=by
  refine ⟨⟨true,min (lvOf S a.n) (lvOf S b.n),false,Ty.zero,uniN a b⟩,⟨mset_new' wf.fresh,?_,fun m hm=>?_,rfl,uniN_lt a b⟩,rfl,rfl⟩
  · unfold newV;rw [mget_mset,if_pos rfl]
  · unfold newV;rw [mget_mset,if_neg hm]
theorem Inv.new {S S':St} {v:Vr} (h:Inv S) (hn:New S S' v):Inv S':=by
  obtain ⟨wf,ρ,rk,h1,h2⟩:=h
  exact ⟨hn.wf wf,_,rk,hn.rv wf h1,hn.rk wf h2⟩
theorem Step.refl {S:St} (hi:Inv S) {e:(Int→Ty)→Prop} (h:∀ σ,Sol S σ→e σ):Step S S true e:=⟨hi,Ext.refl _,fun _ h=>h,fun _ σ hs=>h σ hs,fun σ hs _=>⟨rfl,σ,hs,fun _ _ _=>rfl⟩⟩
theorem Step.no {S:St} (hi:Inv S) {e:(Int→Ty)→Prop} (h:∀ σ,Sol S σ→¬ e σ):Step S S false e:=⟨hi,Ext.refl _,fun _ h=>h,fun h=>absurd h dq,fun σ hs he=>absurd he (h σ hs)⟩
theorem Step.congr {S S':St} {ok:Bool} {e e':(Int→Ty)→Prop} (h:Step S S' ok e) (he:∀ σ,Sol S σ→(e σ↔e' σ)):Step S S' ok e' :=
  ⟨h.inv,h.ext,h.back,fun ho σ hs=>(he σ (h.back σ hs)).1 (h.sound ho σ hs),fun σ hs hh=>h.compl σ hs ((he σ hs).2 hh)⟩
section
variable {S S':St} {a b:Ty} {f:Nat} {ok:Bool}
theorem fin_step (h:finF f S a b=some (ok,S')) (hi:Inv S) (ha:tyS S a) (hb:tyS S b) (ka:a.kind=5) (kb:b.kind=5) (na:bdV S a.n=none) (nb:bdV S b.n=none)
    (hcom:∀ σ,Sol S σ→∀ s x y,fg s a=some x→fg s b=some y→sub σ x=sub σ y):Step S S' ok (fun σ=>sub σ a=sub σ b):=by
  have wf:=hi.1
  obtain ⟨a1,a2,_⟩:=ha.1.sorted ka
  obtain ⟨b1,b2,_⟩:=hb.1.sorted kb
  have a0:=ha.n0 ka
  have b0:=hb.n0 kb
  unfold finF at h
  split at h <;> try (cases h;done)
  split at h
  · rename_i e
    cases h
    by_cases hl:(onT a b b.n).names.length+(onT b a a.n).names.length=0
    · rw [decide_eq_true hl]
      have hsa:=names_nil (b:=b) (n:=b.n) (lt_nodup a1) a2 oq
      have hsb:=names_nil (b:=a) (n:=a.n) (lt_nodup b1) b2 oq
      refine Step.refl hi fun σ hs=>ext5 ha hb ka kb hs (by rw [ha.tail ka,hb.tail kb,e]) fun s=>?_
      by_cases hm:s∈a.names
      · obtain ⟨k,hk⟩:=fg_some a2 hm
        obtain ⟨k',hk'⟩:=fg_some b2 (hsa s hm)
        rw [ha.field1 ka hs hk,hb.field1 kb hs hk',hcom σ hs s k k' hk hk']
      · rw [ha.field0 ka hs hm,hb.field0 kb hs fun h=>hm (hsb s h)]
        unfold rest
        rw [e]
    · rw [decide_eq_false hl]
      refine Step.no hi fun σ hs he=>?_
      by_cases hl1:0<(onT a b b.n).names.length
      · obtain ⟨s,h1,h2⟩:=names_pos (lt_nodup a1) a2 hl1
        obtain ⟨k,hk⟩:=fg_some a2 h1
        have:=ha.field1 ka hs hk
        rw [he,hb.field0 kb hs h2] at this
        have h0:=rest_in ha ka hs h1
        unfold rest at this h0
        rw [e] at h0
        rw [h0] at this
        cases this
      · obtain ⟨s,h1,h2⟩:=names_pos (a:=b) (b:=a) (n:=a.n) (lt_nodup b1) b2 oq
        obtain ⟨k,hk⟩:=fg_some b2 h1
        have:=hb.field1 kb hs hk
        rw [← he,ha.field0 ka hs h2] at this
        have h0:=rest_in hb kb hs h1
        unfold rest at this h0
        rw [e] at this
        rw [h0] at this
        cases this
  rename_i hne
  split at h
  · rename_i hc
    cases h
    refine Step.no hi fun σ hs he=>?_
    rcases hc with ⟨hl,e⟩|⟨hl,e⟩
    · obtain ⟨s,h1,h2⟩:=names_pos (lt_nodup a1) a2 hl
      obtain ⟨k,hk⟩:=fg_some a2 h1
      have:=ha.field1 ka hs hk
      rw [he,hb.field0 kb hs h2] at this
      unfold rest at this
      rw [if_pos e] at this
      cases this
    · obtain ⟨s,h1,h2⟩:=names_pos (lt_nodup b1) b2 hl
      obtain ⟨k,hk⟩:=fg_some b2 h1
      have:=hb.field1 kb hs hk
      rw [← he,ha.field0 ka hs h2] at this
      unfold rest at this
      rw [if_pos e] at this
      cases this
  rename_i hc
  split at h
  · rename_i hca
    obtain ⟨hl,hn⟩:=hca
    have hsub:=names_nil (b:=b) (n:=b.n) (lt_nodup a1) a2 hl
    obtain ⟨x,h1,h2,h3⟩:=ha.var ka hn
    have hv:rwS S a.names (onT b a b.n):=onT_vR hb kb b0 fun hn'=>by
      obtain ⟨y,y1,y2,y3⟩:=hb.var kb hn'
      exact ⟨y,y1,y2,fun s=>by rw [y3];exact ⟨.inr,fun h=>h.elim (hsub s) id⟩⟩
    have hst:=bind_step h hi h1 (bdV_none na h1) ⟨fun hf=>absurd (h2.symm.trans hf) dq,fun _=>by rw [h3];exact hv⟩ (Hn_of rfl nb) (fun h6=>absurd h6 (by show ¬ (5:Int)=6;decide)) (fun _ e=>hne e.symm)
    exact hst.congr fun σ hs=>eq_less ha hb ka kb hsub hn hv hs (hcom σ hs)
  rename_i hca
  split at h
  · rename_i hl
    have hn:b.n≠0:=by
      intro e
      have hl1:¬ 0<(onT a b b.n).names.length:=fun hp=>hc (.inl ⟨hp,e⟩)
      have hna:a.n=0:=Classical.byContradiction fun h0=>hca ⟨by omega,h0⟩
      exact hne (hna.trans e.symm)
    have hsub:=names_nil (b:=a) (n:=a.n) (lt_nodup b1) b2 hl
    obtain ⟨x,h1,h2,h3⟩:=hb.var kb hn
    have hv:rwS S b.names (onT a b a.n):=onT_vR ha ka a0 fun hn'=>by
      obtain ⟨y,y1,y2,y3⟩:=ha.var ka hn'
      exact ⟨y,y1,y2,fun s=>by rw [y3];exact ⟨.inr,fun h=>h.elim (hsub s) id⟩⟩
    have hst:=bind_step h hi h1 (bdV_none nb h1) ⟨fun hf=>absurd (h2.symm.trans hf) dq,fun _=>by rw [h3];exact hv⟩ (Hn_of rfl na) (fun h6=>absurd h6 (by show ¬ (5:Int)=6;decide)) (fun _ e=>hne e)
    refine hst.congr fun σ hs=>(eq_less hb ha kb ka hsub hn hv hs fun s x y hx hy=>(hcom σ hs s y x hy hx).symm).trans ⟨Eq.symm,Eq.symm⟩
  rename_i hlb
  have hla:¬ (onT a b b.n).names.length=0:=by
    intro e
    have hn:a.n=0:=Classical.byContradiction fun h0=>hca ⟨e,h0⟩
    exact hc (.inr ⟨by omega,hn⟩)
  have hna:a.n≠0:=fun e=>hc (.inr ⟨by omega,e⟩)
  have hnb:b.n≠0:=fun e=>hc (.inl ⟨by omega,e⟩)
  obtain ⟨v,hnew,hvr,hvn⟩:=newV_new wf a b
  have hi1:=hi.new hnew
  have he1:=hnew.ext wf
  have ha1:=ha.ext he1
  have hb1:=hb.ext he1
  obtain ⟨xa,xa1,xa2,xa3⟩:=ha.var ka hna
  obtain ⟨xb,xb1,xb2,xb3⟩:=hb.var kb hnb
  have hka:a.n≠((S.length+1:Nat):Int):=wf.ne xa1
  have hkb:b.n≠((S.length+1:Nat):Int):=wf.ne xb1
  have xa1':mget a.n (newV S a b)=some xa:=by rw [hnew.oth _ hka];exact xa1
  have xb1':mget b.n (newV S a b)=some xb:=by rw [hnew.oth _ hkb];exact xb1
  have hk0:bdV (newV S a b) ((S.length+1:Nat):Int)=none:=by rw [bdV_of hnew.at_,hnew.bd];rfl
  have hR:rwS (newV S a b) a.names (onT b a ((S.length+1:Nat):Int)):=onT_vR hb1 kb oq fun _=>⟨v,hnew.at_,hvr,fun s=>by rw [hvn,uniN_mem]⟩
  have hL:rwS (newV S a b) b.names (onT a b ((S.length+1:Nat):Int)):=onT_vR ha1 ka oq fun _=>⟨v,hnew.at_,hvr,fun s=>by rw [hvn,uniN_mem];exact or_comm⟩
  have first:∀ ok S2,bindF f (newV S a b) a.n (onT b a ((S.length+1:Nat):Int))=some (ok,S2)→Step (newV S a b) S2 ok (fun σ=>σ a.n=sub σ (onT b a ((S.length+1:Nat):Int))):=fun ok S2 hb =>
    bind_step hb hi1 xa1' (bdV_none na xa1) ⟨fun hf=>absurd (xa2.symm.trans hf) dq,fun _=>by rw [xa3];exact hR⟩ (Hn_of rfl hk0) (fun h6=>absurd h6 (by show ¬ (5:Int)=6;decide)) (fun _=>hka.symm)
  have two:∀ σ,Sol (newV S a b) σ→σ a.n=sub σ (onT b a ((S.length+1:Nat):Int))→σ b.n=sub σ (onT a b ((S.length+1:Nat):Int))→sub σ a=sub σ b:=by
    intro σ hs e1 e2
    have hsS:=hnew.back wf hs
    have hv0:=hs.row _ v hnew.at_ hvr
    have hk:¬ ((S.length+1:Nat):Int)=0:=by omega
    have ra:∀ s,rest σ a s=fg s (sub σ (onT b a ((S.length+1:Nat):Int))):=fun s=>by unfold rest;rw [if_neg hna,e1]
    have rb:∀ s,rest σ b s=fg s (sub σ (onT a b ((S.length+1:Nat):Int))):=fun s=>by unfold rest;rw [if_neg hnb,e2]
    refine ext5 ha hb ka kb hsS ?_ fun s=>?_
    · rw [ha.tail ka,hb.tail kb,if_neg hna,if_neg hnb,e1,e2,sub_n (by rfl),sub_n (by rfl)];rfl
    · rw [ha.field ka hsS,hb.field kb hsS,ra,rb,onT_field hb1 kb hs hR,onT_field ha1 ka hs hL,if_neg hk,if_neg hk]
      by_cases hma:s∈a.names <;> by_cases hmb:s∈b.names
      · obtain ⟨k,hk⟩:=fg_some a2 hma
        obtain ⟨k',hk'⟩:=fg_some b2 hmb
        rw [hv0.2 s (by rw [hvn,uniN_mem];exact .inl hma),if_pos hma,if_pos hmb,hk,hk']
        simp only [Option.orElse_none,Option.map_some]
        rw [hcom σ hsS s k k' hk hk']
      · rw [hv0.2 s (by rw [hvn,uniN_mem];exact .inl hma),if_pos hma,if_neg hmb,(fg_none b2).2 hmb]
        cases fg s a <;> simp
      · rw [hv0.2 s (by rw [hvn,uniN_mem];exact .inr hmb),if_neg hma,if_pos hmb,(fg_none a2).2 hma]
        cases fg s b <;> simp
      · rw [if_neg hma,if_neg hmb,(fg_none a2).2 hma,(fg_none b2).2 hmb]
  have three:∀ σ,Sol S σ→sub σ a=sub σ b→∃ w,Gt w∧(v.row=true→w.kind=5∧∀ s∈v.names,fg s w=none)∧∀ τ,Sol (newV S a b) τ→(∀ n x,mget n S=some x→τ n=σ n)→τ ((S.length+1:Nat):Int)=w →
      τ a.n=sub τ (onT b a ((S.length+1:Nat):Int))∧τ b.n=sub τ (onT a b ((S.length+1:Nat):Int)):=by
    intro σ hs e
    have hra:=hs.row _ xa xa1 xa2
    have hga:=hs.gt _ xa xa1
    have hrb:=hs.row _ xb xb1 xb2
    have hgb:=hs.gt _ xb xb1
    obtain ⟨r1,r2,r3,r4,r5⟩:=hga.sorted hra.1
    have hnn:(σ a.n).n=(σ b.n).n:=by
      have h1:=ha.tail (σ:=σ) ka
      have h2:=hb.tail (σ:=σ) kb
      rw [if_neg hna] at h1
      rw [if_neg hnb] at h2
      rw [← h1,← h2,e]
    have wfg:∀ s,fg s (onT (σ a.n) b (σ a.n).n)=if s∈b.names then none else fg s (σ a.n):=fun s=>onT_fg (lt_nodup r1) r2 s
    have hGw:Gt (onT (σ a.n) b (σ a.n).n):=onT_G (lt_nodup r1) r2 r4 r5
    refine ⟨onT (σ a.n) b (σ a.n).n,hGw,fun _=>⟨rfl,fun s hm=>?_⟩,fun τ hτ hag hw=>?_⟩
    · rw [hvn,uniN_mem] at hm
      rw [wfg]
      split
      · rfl
      · rename_i hnb'
        exact hra.2 s (by rw [xa3];exact hm.resolve_right hnb')
    · have hτS:=hnew.back wf hτ
      have hk:¬ ((S.length+1:Nat):Int)=0:=by omega
      have hkid:∀ (t:Ty),tyS S t→sub τ t=sub σ t:=fun t ht=>sub_congr t fun o ho=>by obtain ⟨y,y1,_⟩:=ht.2 o ho;exact hag _ y y1
      have fa:∀ s,(fg s a).map (sub τ)=(fg s a).map (sub σ):=fun s=>by
        cases hf:fg s a with
        | none=>rfl
        | some k=>simp only [Option.map_some];rw [hkid k (ha.kid (fg_kid hf))]
      have fb:∀ s,(fg s b).map (sub τ)=(fg s b).map (sub σ):=fun s=>by
        cases hf:fg s b with
        | none=>rfl
        | some k=>simp only [Option.map_some];rw [hkid k (hb.kid (fg_kid hf))]
      have ef:∀ s,fg s (sub σ a)=fg s (sub σ b):=fun s=>by rw [e]
      have e1:∀ s,s∉a.names→s∈b.names→fg s (σ a.n)=(fg s b).map (sub σ):=fun s h1 h2=>by
        obtain ⟨k,hk⟩:=fg_some b2 h2
        have:=ef s
        rw [ha.field0 ka hs h1,hb.field1 kb hs hk] at this
        unfold rest at this
        rw [if_neg hna] at this
        rw [this,hk];rfl
      have e2:∀ s,s∈a.names→s∉b.names→fg s (σ b.n)=(fg s a).map (sub σ):=fun s h1 h2=>by
        obtain ⟨k,hk⟩:=fg_some a2 h1
        have:=ef s
        rw [ha.field1 ka hs hk,hb.field0 kb hs h2] at this
        unfold rest at this
        rw [if_neg hnb] at this
        rw [← this,hk];rfl
      have e3:∀ s,s∉a.names→s∉b.names→fg s (σ a.n)=fg s (σ b.n):=fun s h1 h2=>by
        have:=ef s
        rw [ha.field0 ka hs h1,hb.field0 kb hs h2] at this
        unfold rest at this
        rwa [if_neg hna,if_neg hnb] at this
      have kR:(sub τ (onT b a ((S.length+1:Nat):Int))).kind=5:=by rw [sub_kind (by show ¬ (5:Int)=6;decide)];rfl
      have kL:(sub τ (onT a b ((S.length+1:Nat):Int))).kind=5:=by rw [sub_kind (by show ¬ (5:Int)=6;decide)];rfl
      have nR:(sub τ (onT b a ((S.length+1:Nat):Int))).n=(σ a.n).n:=by
        rw [sub_n (by rfl)]
        show (if ((S.length+1:Nat):Int)=0 then 0 else (τ ((S.length+1:Nat):Int)).n)=_
        rw [if_neg hk,hw];rfl
      have nL:(sub τ (onT a b ((S.length+1:Nat):Int))).n=(σ a.n).n:=by
        rw [sub_n (by rfl)]
        show (if ((S.length+1:Nat):Int)=0 then 0 else (τ ((S.length+1:Nat):Int)).n)=_
        rw [if_neg hk,hw];rfl
      rw [hag _ xa xa1,hag _ xb xb1]
      refine ⟨rec_ext hga (sub_G hR.gt (hR.okG hτ)) hra.1 kR nR.symm fun s=>?_,rec_ext hgb (sub_G hL.gt (hL.okG hτ)) hrb.1 kL (by rw [nL,hnn]) fun s=>?_⟩
      · rw [onT_field hb1 kb hτ hR,if_neg hk,hw,wfg,fb]
        by_cases hma:s∈a.names
        · rw [if_pos hma,hra.2 s (by rw [xa3];exact hma)];simp
        · rw [if_neg hma]
          by_cases hmb:s∈b.names
          · rw [if_pos hmb,e1 s hma hmb];simp
          · rw [if_neg hmb,(fg_none b2).2 hmb];cases fg s (σ a.n) <;> simp
      · rw [onT_field ha1 ka hτ hL,if_neg hk,hw,wfg,fa]
        by_cases hmb:s∈b.names
        · rw [if_pos hmb,if_pos hmb,hrb.2 s (by rw [xb3];exact hmb)];simp
        · rw [if_neg hmb,if_neg hmb]
          by_cases hma:s∈a.names
          · rw [e2 s hma hmb,hra.2 s (by rw [xa3];exact hma)];simp
          · rw [← e3 s hma hmb,(fg_none a2).2 hma];cases fg s (σ a.n) <;> simp
  split at h <;> try (cases h;done)
  split at h <;> try (cases h;done)
  · rename_i S2 hb1'
    have st1:=first true S2 hb1'
    obtain ⟨xb',yb1,yb2,yb3⟩:=st1.ext _ xb xb1'
    have hnb2:bdV S2 b.n=none:=by
      unfold bindF at hb1'
      rw [xa1'] at hb1'
      simp only at hb1'
      split at hb1' <;> try (cases hb1';done)
      split at hb1' <;> try (cases hb1';done)
      split at hb1'
      · cases hb1'
      · cases hb1'
        have hB:=bind_bnd (t:=onT b a ((S.length+1:Nat):Int)) xa1' (visN [] ‹Ty›)
        obtain ⟨z,z1,z2,z3,_,z5⟩:=hB.fw _ xb xb1'
        rw [bdV_of z1,(z5 (fun e=>hne e.symm)).1,bdV_none nb xb1];rfl
    have hk2:bdV S2 ((S.length+1:Nat):Int)=none:=by
      unfold bindF at hb1'
      rw [xa1'] at hb1'
      simp only at hb1'
      split at hb1' <;> try (cases hb1';done)
      split at hb1' <;> try (cases hb1';done)
      split at hb1'
      · cases hb1'
      · cases hb1'
        have hB:=bind_bnd (t:=onT b a ((S.length+1:Nat):Int)) xa1' (visN [] ‹Ty›)
        obtain ⟨z,z1,z2,z3,_,z5⟩:=hB.fw _ v hnew.at_
        rw [bdV_of z1,(z5 (fun e=>hka e.symm)).1,hnew.bd];rfl
    have st2:=bind_step h st1.inv yb1 (bdV_none hnb2 yb1) ⟨fun hf=>absurd (yb2.symm.trans (hf) |>.symm.trans xb2 |>.symm) dq,fun _=>by rw [yb3,xb3];exact hL.ext st1.ext⟩ (Hn_of rfl hk2) (fun h6=>absurd h6 (by show ¬ (5:Int)=6;decide)) (fun _=>hkb.symm)
    refine ⟨st2.inv,he1.trans (st1.ext.trans st2.ext),fun σ hs=>hnew.back wf (st1.back σ (st2.back σ hs)),fun ho σ hs=>?_,fun σ hs e=>?_⟩
    · have h1:=st2.back σ hs
      exact two σ (st1.back σ h1) (st1.sound rfl σ h1) (st2.sound ho σ hs)
    · obtain ⟨w,w1,w2,w3⟩:=three σ hs e
      have hs1:=hnew.sol wf hs w1 w2
      have hag:∀ n x,mget n S=some x→upd σ ((S.length+1:Nat):Int) w n=σ n:=fun n x hx=>upd_ne (wf.ne hx)
      obtain ⟨g1,g2⟩:=w3 _ hs1 hag (upd_at _ _ _)
      obtain ⟨_,σ1,p1,p2⟩:=st1.compl _ hs1 g1
      have hag1:∀ n x,mget n S=some x→σ1 n=σ n:=fun n x hx=>by
        rw [p2 n x (by rw [hnew.oth _ (wf.ne hx)];exact hx)];exact hag n x hx
      have hw1:σ1 ((S.length+1:Nat):Int)=w:=by rw [p2 _ v hnew.at_,upd_at]
      obtain ⟨_,g4⟩:=w3 σ1 (st1.back σ1 p1) hag1 hw1
      obtain ⟨q1,σ2,q2,q3⟩:=st2.compl σ1 p1 g4
      refine ⟨q1,σ2,q2,fun n x hx=>?_⟩
      have hx1:mget n (newV S a b)=some x:=by rw [hnew.oth _ (wf.ne hx)];exact hx
      obtain ⟨x2,hx2,_⟩:=st1.ext n x hx1
      rw [q3 n x2 hx2,hag1 n x hx]
  · rename_i S2 hb1'
    cases h
    have st1:=first false S' hb1'
    refine ⟨st1.inv,he1.trans st1.ext,fun σ hs=>hnew.back wf (st1.back σ hs),fun h=>absurd h dq,fun σ hs e=>?_⟩
    obtain ⟨w,w1,w2,w3⟩:=three σ hs e
    have hs1:=hnew.sol wf hs w1 w2
    obtain ⟨g1,g2⟩:=w3 _ hs1 (fun n x hx=>upd_ne (wf.ne hx)) (upd_at _ _ _)
    exact absurd (st1.compl _ hs1 g1).1 dq
end
def eqn (a b:Ty) (σ:Int→Ty):Prop:=sub σ a=sub σ b
def UOk (U:UF):Prop:=∀ S a b ok S',U S a b=some (ok,S')→Inv S→tyS S a→tyS S b→Step S S' ok (eqn a b)
theorem idx_fg {b:Ty} {s:List UInt8} (hnd:b.names.Nodup) (hl:b.names.length=b.kids.length) (h:¬ idxS b.names s<0):fg s b=some (b.kids.getD (idxS b.names s).toNat Ty.zero):=by
  unfold idxS at h ⊢
  split at h
  · rename_i i hi
    rw [List.findIdx?_eq_some_iff_getElem] at hi
    obtain ⟨h1,h2,_⟩:=hi
    refine (fg_idx hnd hl).2 ⟨i,h1,?_,?_⟩
    · rw [List.getD_eq_getElem?_getD,List.getElem?_eq_getElem h1];exact beq_iff_eq.1 h2
    · rfl
  · omega
theorem idx_no {b:Ty} {s:List UInt8} (h:idxS b.names s<0):s∉b.names:=by
  have:=idxS_contains b.names s
  intro hm
  rw [List.contains_iff_mem.2 hm,decide_eq_true_eq] at this
  omega
theorem isD_mset {D:Dn} {s t:List UInt8}:isD (mset s true D) t=if t=s then true else isD D t:=by
  unfold isD
  rw [mget_mset]
  by_cases e:t=s
  · rw [if_pos e,if_pos e]
  · rw [if_neg e,if_neg e]
theorem pass_ok {U:UF} (hU:UOk U) {b:Ty} (kb:b.kind=5):∀ (ns:List (List UInt8)) (ks:List Ty) (S:St) (D:Dn) (ag ok:Bool) (S1:St) (D1:Dn) (ag1:Bool),passF U b ns ks S D ag=some (ok,S1,D1,ag1)→ns.length=ks.length→Inv S→tyS S b→(∀ k∈ks,tyS S k) →
    Inv S1∧Ext S S1∧(∀ σ,Sol S1 σ→Sol S σ) ∧
    (ok=true→(∀ s,isD D1 s=true→isD D s=true∨∃ x y,(s,x)∈ns.zip ks∧fg s b=some y∧∀ σ,Sol S1 σ→sub σ x=sub σ y)∧(ag1=false→S1=S∧∀ s∈ns,s∈b.names→isD D s=true)) ∧
    (∀ σ,Sol S σ→(∀ s x y,(s,x)∈ns.zip ks→fg s b=some y→sub σ x=sub σ y)→ok=true∧∃ σ',Sol S1 σ'∧∀ n x,mget n S=some x→σ' n=σ n)
  | [],ks,S,D,ag,ok,S1,D1,ag1,h,hl,hi,hb,hk=>by
    simp only [passF,Option.some.injEq,Prod.mk.injEq] at h
    obtain ⟨rfl,rfl,rfl,rfl⟩:=h
    exact ⟨hi,Ext.refl _,fun _ h=>h,fun _=>⟨fun s h=>.inl h,fun _=>⟨rfl,by simp⟩⟩,fun σ hs _=>⟨rfl,σ,hs,fun _ _ _=>rfl⟩⟩
  | s::ns,[],S,D,ag,ok,S1,D1,ag1,h,hl,hi,hb,hk=>by simp at hl
  | s::ns,k::ks,S,D,ag,ok,S1,D1,ag1,h,hl,hi,hb,hk=>by
    obtain ⟨b1,b2,_⟩:=hb.1.sorted kb
    rw [passF] at h
    split at h
    · rename_i hc
      obtain ⟨q1,q2,q3,q4,q5⟩:=pass_ok hU kb ns ks S D ag ok S1 D1 ag1 h (by simpa using hl) hi hb (fun k hk'=>hk k (List.mem_cons_of_mem _ hk'))
      refine ⟨q1,q2,q3,fun ho=>?_,fun σ hs he=>q5 σ hs fun t x y hm hf=>he t x y (by rw [List.zip_cons_cons];exact List.mem_cons_of_mem _ hm) hf⟩
      obtain ⟨r1,r2⟩:=q4 ho
      refine ⟨fun t ht=>?_,fun ha=>⟨(r2 ha).1,fun t ht htb=>?_⟩⟩
      · rcases r1 t ht with h|⟨x,y,h1,h2⟩
        · exact .inl h
        · exact .inr ⟨x,y,by rw [List.zip_cons_cons];exact List.mem_cons_of_mem _ h1,h2⟩
      · rcases List.mem_cons.1 ht with rfl|ht
        · rcases hc with hc|hc
          · exact absurd htb (idx_no hc)
          · exact hc
        · exact (r2 ha).2 t ht htb
    · rename_i hc
      have hc':¬ idxS b.names s<0∧¬ isD D s=true:=⟨fun h=>hc (.inl h),fun h=>hc (.inr h)⟩
      have hf:=idx_fg (lt_nodup b1) b2 hc'.1
      have hvb:=hb.kid (fg_kid hf)
      have hz:(s,k)∈(s::ns).zip (k::ks):=by rw [List.zip_cons_cons];exact List.mem_cons_self
      split at h <;> try (cases h;done)
      · rename_i S2 hU1
        have st:=hU _ _ _ _ _ hU1 hi (hk k List.mem_cons_self) hvb
        obtain ⟨q1,q2,q3,q4,q5⟩:=pass_ok hU kb ns ks S2 (mset s true D) true ok S1 D1 ag1 h (by simpa using hl) st.inv (hb.ext st.ext) (fun k hk'=>(hk k (List.mem_cons_of_mem _ hk')).ext st.ext)
        refine ⟨q1,st.ext.trans q2,fun σ hs=>st.back σ (q3 σ hs),fun ho=>?_,fun σ hs he=>?_⟩
        · obtain ⟨r1,r2⟩:=q4 ho
          refine ⟨fun t ht=>?_,fun ha=>?_⟩
          · rcases r1 t ht with h|⟨x,y,h1,h2⟩
            · rw [isD_mset] at h
              split at h
              · rename_i e
                subst e
                exact .inr ⟨k,_,hz,hf,fun σ hs=>st.sound rfl σ (q3 σ hs)⟩
              · exact .inl h
            · exact .inr ⟨x,y,by rw [List.zip_cons_cons];exact List.mem_cons_of_mem _ h1,h2⟩
          · exfalso
            have:∀ (ns:List (List UInt8)) (ks:List Ty) (S:St) (D:Dn) (S1:St) (D1:Dn),passF U b ns ks S D true≠some (true,S1,D1,false):=by
              intro ns
              induction ns with
              | nil=>intro ks S D S1 D1 h;simp [passF] at h
              | cons s ns ih =>
                intro ks S D S1 D1 h
                cases ks with
                | nil=>simp [passF] at h
                | cons k ks =>
                  rw [passF] at h
                  split at h
                  · exact ih _ _ _ _ _ h
                  · split at h <;> try (cases h;done)
                    exact ih _ _ _ _ _ h
            rw [ho,ha] at h
            exact this _ _ _ _ _ _ h
        · obtain ⟨_,σ1,p1,p2⟩:=st.compl σ hs (he s k _ hz hf)
          have hkid:∀ t,tyS S t→sub σ1 t=sub σ t:=fun t ht=>sub_congr t fun o ho=>by obtain ⟨y,y1,_⟩:=ht.2 o ho;exact p2 _ y y1
          obtain ⟨p3,σ2,p4,p5⟩:=q5 σ1 p1 fun t x y hm hf'=>by
            rw [hkid x (hk x (List.mem_cons_of_mem _ (List.of_mem_zip hm).2)),hkid y (hb.kid (fg_kid hf'))]
            exact he t x y (by rw [List.zip_cons_cons];exact List.mem_cons_of_mem _ hm) hf'
          refine ⟨p3,σ2,p4,fun n x hx=>?_⟩
          obtain ⟨x',hx',_⟩:=st.ext n x hx
          rw [p5 n x' hx',p2 n x hx]
      · rename_i S2 hU1
        simp only [Option.some.injEq,Prod.mk.injEq] at h
        obtain ⟨rfl,rfl,rfl,rfl⟩:=h
        have st:=hU _ _ _ _ _ hU1 hi (hk k List.mem_cons_self) hvb
        exact ⟨st.inv,st.ext,st.back,fun h=>absurd h dq,fun σ hs he=>absurd (st.compl σ hs (he s k _ hz hf)).1 dq⟩
def dOk (S:St) (a b:Ty) (D:Dn):Prop:=∀ s,isD D s=true→∀ σ,Sol S σ→fg s (sub σ a)=fg s (sub σ b)
theorem loop_ok {f:Nat} {U:UF} (hU:UOk U):∀ (g:Nat) (S:St) (a b:Ty) (D:Dn) (ok:Bool) (S1:St) (a1 b1:Ty),loopF f U g S a b D=some (ok,S1,a1,b1)→Inv S→tyS S a→tyS S b→a.kind=5→b.kind=5→dOk S a b D →
    Inv S1∧Ext S S1∧(∀ σ,Sol S1 σ→Sol S σ) ∧
    (ok=true→tyS S1 a1∧tyS S1 b1∧a1.kind=5∧b1.kind=5∧bdV S1 a1.n=none∧bdV S1 b1.n=none∧(∀ σ,Sol S1 σ→sub σ a1=sub σ a∧sub σ b1=sub σ b)∧∀ σ,Sol S1 σ→∀ s x y,fg s a1=some x→fg s b1=some y→sub σ x=sub σ y) ∧
    (∀ σ,Sol S σ→eqn a b σ→ok=true∧∃ σ',Sol S1 σ'∧∀ n x,mget n S=some x→σ' n=σ n)
  | 0,S,a,b,D,ok,S1,a1,b1,h,_,_,_,_,_,_=>by simp [loopF] at h
  | g+1,S,a,b,D,ok,S1,a1,b1,h,hi,ha,hb,ka,kb,hd=>by
    rw [loopF] at h
    split at h <;> try (cases h;done)
    rename_i a' ha'
    split at h <;> try (cases h;done)
    rename_i b' hb'
    split at h <;> try (cases h;done)
    obtain ⟨va,na,ea⟩:=head_ok hi.1 ha' ha
    obtain ⟨vb,nb,eb⟩:=head_ok hi.1 hb' hb
    obtain ⟨ρ,rk,hρ,hrk⟩:=hi.2
    have kk:∀ t t':Ty,tyS S t'→t.kind=5→sub ρ t'=sub ρ t→(t'.kind=5∨t'.kind=6→bdV S t'.n=none)→t'.kind=5:=by
      intro t t' hv k5 e hn
      have h1:(sub ρ t').kind=5:=by rw [e,sub_kind (by rw [k5];decide)];exact k5
      by_cases h6:t'.kind=6
      · obtain ⟨x,h2,h3,_⟩:=hv.2 ⟨t'.n,false,[]⟩ (by rw [← Ty.eta t',h6];exact occs_var)
        have h2:mget t'.n S=some x:=h2
        rw [← Ty.eta t',h6,sub_var,hρ.free _ x h2 (bdV_none (hn (.inr h6)) h2),h3] at h1
        exact absurd h1 (by simp [idv])
      · rw [sub_kind h6] at h1;exact h1
    have ka':=kk a a' va ka (ea ρ hρ.sol) na
    have kb':=kk b b' vb kb (eb ρ hρ.sol) nb
    have na:=na (.inl ka')
    have nb:=nb (.inl kb')
    obtain ⟨s1,s2,_⟩:=va.1.sorted ka'
    obtain ⟨t1,t2,_⟩:=vb.1.sorted kb'
    have hkids:∀ k∈a'.kids,tyS S k:=fun k hk=>va.kid hk
    have heq:∀ σ,Sol S σ→eqn a b σ→∀ s x y,(s,x)∈a'.names.zip a'.kids→fg s b'=some y→sub σ x=sub σ y:=by
      intro σ hs e s x y hm hf
      have hx:fg s a'=some x:=mg_of (by rw [zip_fst' s2];exact lt_nodup s1) hm
      have h1:=va.field1 ka' hs hx
      have h2:=vb.field1 kb' hs hf
      have e:sub σ a=sub σ b:=e
      rw [ea σ hs,e,← eb σ hs,h2] at h1
      exact (Option.some.inj h1).symm
    split at h <;> try (cases h;done)
    · rename_i S2 D2 hp
      obtain ⟨q1,q2,q3,q4,q5⟩:=pass_ok hU kb' _ _ _ _ _ _ _ _ _ hp s2 hi vb hkids
      obtain ⟨r1,_⟩:=q4 rfl
      obtain ⟨l1,l2,l3,l4,l5⟩:=loop_ok hU g S2 a' b' D2 ok S1 a1 b1 h q1 (va.ext q2) (vb.ext q2) ka' kb' (fun s hs σ hσ=>by
        rcases r1 s hs with h|⟨x,y,h1,h2,h3⟩
        · rw [ea σ (q3 σ hσ),eb σ (q3 σ hσ)];exact hd s h σ (q3 σ hσ)
        · have hx:fg s a'=some x:=mg_of (by rw [zip_fst' s2];exact lt_nodup s1) h1
          rw [va.field1 ka' (q3 σ hσ) hx,vb.field1 kb' (q3 σ hσ) h2,h3 σ hσ])
      refine ⟨l1,q2.trans l2,fun σ hs=>q3 σ (l3 σ hs),fun ho=>?_,fun σ hs e=>?_⟩
      · obtain ⟨u1,u2,u3,u4,u5,u6,u7,u8⟩:=l4 ho
        refine ⟨u1,u2,u3,u4,u5,u6,fun σ hs=>?_,u8⟩
        have hs0:=q3 σ (l3 σ hs)
        exact ⟨(u7 σ hs).1.trans (ea σ hs0),(u7 σ hs).2.trans (eb σ hs0)⟩
      · obtain ⟨_,σ1,p1,p2⟩:=q5 σ hs (heq σ hs e)
        have hkid:∀ t,tyS S t→sub σ1 t=sub σ t:=fun t ht=>sub_congr t fun o ho=>by obtain ⟨y,y1,_⟩:=ht.2 o ho;exact p2 _ y y1
        obtain ⟨p3,σ2,p4,p5⟩:=l5 σ1 p1 (by
          show sub σ1 a'=sub σ1 b'
          rw [hkid a' va,hkid b' vb,ea σ hs,eb σ hs];exact e)
        refine ⟨p3,σ2,p4,fun n x hx=>?_⟩
        obtain ⟨x',hx',_⟩:=q2 n x hx
        rw [p5 n x' hx',p2 n x hx]
    · rename_i S2 D2 hp
      simp only [Option.some.injEq,Prod.mk.injEq] at h
      obtain ⟨rfl,rfl,rfl,rfl⟩:=h
      obtain ⟨q1,q2,q3,q4,q5⟩:=pass_ok hU kb' _ _ _ _ _ _ _ _ _ hp s2 hi vb hkids
      obtain ⟨r1,r2⟩:=q4 rfl
      obtain ⟨rfl,r3⟩:=r2 rfl
      refine ⟨hi,Ext.refl _,fun _ h=>h,fun _=>⟨va,vb,ka',kb',na,nb,fun σ hs=>⟨ea σ hs,eb σ hs⟩,fun σ hs s x y hx hy=>?_⟩,fun σ hs _=>⟨rfl,σ,hs,fun _ _ _=>rfl⟩⟩
      have h1:=hd s (r3 s (fg_name hx) (fg_name hy)) σ hs
      rw [← ea σ hs,← eb σ hs,va.field1 ka' hs hx,vb.field1 kb' hs hy] at h1
      exact Option.some.inj h1
    · rename_i S2 D2 ag2 hp
      simp only [Option.some.injEq,Prod.mk.injEq] at h
      obtain ⟨rfl,rfl,rfl,rfl⟩:=h
      obtain ⟨q1,q2,q3,q4,q5⟩:=pass_ok hU kb' _ _ _ _ _ _ _ _ _ hp s2 hi vb hkids
      exact ⟨q1,q2,q3,fun h=>absurd h dq,fun σ hs e=>absurd (q5 σ hs (heq σ hs e)).1 dq⟩
theorem rows_ok {f:Nat} {U:UF} (hU:UOk U) {S S':St} {a b:Ty} {ok:Bool} (h:rowsF f U S a b=some (ok,S')) (hi:Inv S) (ha:tyS S a) (hb:tyS S b) (ka:a.kind=5) (kb:b.kind=5):Step S S' ok (eqn a b):=by
  unfold rowsF at h
  split at h <;> try (cases h;done)
  · rename_i S1 a1 b1 hl
    obtain ⟨l1,l2,l3,l4,l5⟩:=loop_ok hU f S a b [] _ _ _ _ hl hi ha hb ka kb (fun s h=>by simp [isD,mget] at h)
    obtain ⟨u1,u2,u3,u4,u5,u6,u7,u8⟩:=l4 rfl
    have st:=fin_step h l1 u1 u2 u3 u4 u5 u6 u8
    refine ⟨st.inv,l2.trans st.ext,fun σ hs=>l3 σ (st.back σ hs),fun ho σ hs=>?_,fun σ hs e=>?_⟩
    · have:=st.sound ho σ hs
      obtain ⟨e1,e2⟩:=u7 σ (st.back σ hs)
      show sub σ a=sub σ b
      rw [← e1,← e2];exact this
    · obtain ⟨_,σ1,p1,p2⟩:=l5 σ hs e
      have hkid:∀ t,tyS S t→sub σ1 t=sub σ t:=fun t ht=>sub_congr t fun o ho=>by obtain ⟨y,y1,_⟩:=ht.2 o ho;exact p2 _ y y1
      obtain ⟨e1,e2⟩:=u7 σ1 p1
      obtain ⟨p3,σ2,p4,p5⟩:=st.compl σ1 p1 (by rw [e1,e2,hkid a ha,hkid b hb];exact e)
      refine ⟨p3,σ2,p4,fun n x hx=>?_⟩
      obtain ⟨x',hx',_⟩:=l2 n x hx
      rw [p5 n x' hx',p2 n x hx]
  · rename_i S1 a1 b1 hl
    cases h
    obtain ⟨l1,l2,l3,l4,l5⟩:=loop_ok hU f S a b [] _ _ _ _ hl hi ha hb ka kb (fun s h=>by simp [isD,mget] at h)
    exact ⟨l1,l2,l3,fun h=>absurd h dq,fun σ hs e=>absurd (l5 σ hs e).1 dq⟩
theorem Gt.name6 {t:Ty} (h:Gt t) {σ:Int→Ty} (h6:t.kind≠6):(sub σ t).name=t.name:=by
  cases h with
  | leaf k x h4 h5 h6'=>rw [sub_no σ x [] [] h6' (fun h=>absurd h h5)];rfl
  | list t h=>rw [sub_no σ _ _ _ dq dq];rfl
  | var n h=>exact absurd rfl h6
  | rcd n ns ks h0 hs hl hk =>
    by_cases hn:n=0
    · rw [sub_no σ _ _ _ dq (fun _=>hn)];rfl
    · rw [sub_row σ _ _ _ hn];rfl
theorem tyS.var6 {S:St} {t:Ty} (h:tyS S t) (h6:t.kind=6):∃ x,mget t.n S=some x∧x.row=false:=by
  obtain ⟨x,h2,h3,_⟩:=h.2 ⟨t.n,false,[]⟩ (by rw [← Ty.eta t,h6];exact occs_var)
  exact ⟨x,h2,h3⟩
theorem sub_6 {σ:Int→Ty} {t:Ty} (h6:t.kind=6):sub σ t=σ t.n:=by rw [← Ty.eta t,h6,sub_var];rfl
theorem unify_ok:∀ f,UOk (unifyF f)
  | 0=>fun S a b ok S' h=>by simp [unifyF] at h
  | f+1=>fun S a b ok S' h hi ha hb=>by
    have ih:=unify_ok f
    rw [unifyF] at h
    split at h <;> try (cases h;done)
    rename_i a' ha'
    split at h <;> try (cases h;done)
    rename_i b' hb'
    split at h <;> try (cases h;done)
    obtain ⟨va,na,ea⟩:=head_ok hi.1 ha' ha
    obtain ⟨vb,nb,eb⟩:=head_ok hi.1 hb' hb
    have hh:∀ σ,Sol S σ→(sub σ a'=sub σ b'↔eqn a b σ):=fun σ hs=>by unfold eqn;rw [ea σ hs,eb σ hs]
    refine Step.congr ?_ hh
    split at h
    · rename_i hc
      cases h
      exact Step.refl hi fun σ _=>by rw [sub_6 hc.1,sub_6 hc.2.1,hc.2.2]
    rename_i hc
    split at h
    · rename_i h6
      obtain ⟨x,x1,x2⟩:=va.var6 h6
      have st:=bind_step h hi x1 (bdV_none (na (.inr h6)) x1) ⟨fun _=>vb,fun hr=>absurd (x2.symm.trans hr) dq⟩ nb (fun k6 e=>hc ⟨h6,k6,e.symm⟩) (fun hr=>absurd (x2.symm.trans hr) dq)
      exact st.congr fun σ _=>by rw [sub_6 h6]
    rename_i h6
    split at h
    · rename_i k6
      obtain ⟨x,x1,x2⟩:=vb.var6 k6
      have st:=bind_step h hi x1 (bdV_none (nb (.inr k6)) x1) ⟨fun _=>va,fun hr=>absurd (x2.symm.trans hr) dq⟩ na (fun h6' _=>h6 h6') (fun hr=>absurd (x2.symm.trans hr) dq)
      exact st.congr fun σ _=>by rw [sub_6 k6];exact ⟨Eq.symm,Eq.symm⟩
    rename_i k6
    split at h
    · rename_i hne
      cases h
      refine Step.no hi fun σ hs e=>?_
      have e1:=congrArg Ty.kind e
      have e2:=congrArg Ty.name e
      rw [sub_kind h6,sub_kind k6] at e1
      rw [va.1.name6 h6,vb.1.name6 k6] at e2
      exact hne.elim (fun h=>h e1) (fun h=>h e2)
    rename_i hne
    have hk:a'.kind=b'.kind:=Classical.byContradiction fun h=>hne (.inl h)
    have hx:a'.name=b'.name:=Classical.byContradiction fun h=>hne (.inr h)
    split at h
    · rename_i h5
      exact rows_ok ih h hi va vb h5 (hk▸h5)
    rename_i h5
    have list1:∀ t:Ty,Gt t→t.kind=4→t=.mk 4 [] 0 [] [t.kids.getD 0 Ty.zero]∧t.kids.getD 0 Ty.zero∈t.kids:=by
      intro t hg h4
      cases hg with
      | leaf k x a b c=>exact absurd h4 a
      | list t h=>exact ⟨rfl,by simp⟩
      | var n h=>exact absurd h4 zq
      | rcd n ns ks a b c d=>exact absurd h4 zq
    split at h
    · rename_i h4
      split at h <;> try (cases h;done)
      obtain ⟨a1,a2⟩:=list1 a' va.1 h4
      obtain ⟨b1,b2⟩:=list1 b' vb.1 (hk▸h4)
      have st:=ih _ _ _ _ _ h hi (va.kid a2) (vb.kid b2)
      refine st.congr fun σ _=>?_
      conv=>rhs;rw [a1,b1]
      rw [sub_no σ _ _ _ dq dq,sub_no σ _ _ _ dq dq]
      unfold eqn
      constructor
      · intro e;simp only [List.map_cons,List.map_nil];rw [e]
      · intro e
        have:=congrArg Ty.kids e
        simpa using this
    · rename_i h4
      cases h
      have leaf1:∀ t:Ty,Gt t→¬ t.kind=4→¬ t.kind=5→¬ t.kind=6→t=.mk t.kind t.name 0 [] []:=by
        intro t hg h4 h5 h6
        cases hg with
        | leaf k x a b c=>rfl
        | list t h=>exact absurd rfl h4
        | var n h=>exact absurd rfl h6
        | rcd n ns ks a b c d=>exact absurd rfl h5
      have:=leaf1 a' va.1 h4 h5 h6
      have:=leaf1 b' vb.1 (hk▸h4) (hk▸h5) k6
      refine Step.refl hi fun σ _=>?_
      rw [‹a'=_›,‹b'=_›,hk,hx]
end Go.Proofs.YtdikgijfekfaoaaGreatDoor
namespace Go.Proofs.YtdikgijfekfaoaaGreatDoor
open Go.Proofs.YtdikgijfekfaoaaGreatDoor.Abs
def nm4:List (List UInt8):=[[97],[98],[99],[105,100]]
inductive Ft (h:Int→Nat):Nat→Ty→Prop
  | leaf (b:Nat) (k:Int) (x:List UInt8) (hx:x.length≤10∧fmd (.mk k x 0 [] [])=true) (h5:k≠5) (h6:k≠6):Ft h b (.mk k x 0 [] [])
  | list (b:Nat) (t:Ty) (ht:Ft h b t):Ft h (b+1) (.mk 4 [] 0 [] [t])
  | var (b:Nat) (n:Int) (hn:h n=b):Ft h b (.mk 6 [] n [] [])
  | rcd (b:Nat) (n:Int) (ns:List (List UInt8)) (ks:List Ty) (hn:n≠0→h n=b+1) (nd:ns.Nodup) (hm:∀ s∈ns,s∈nm4) (hl:ns.length=ks.length) (hk:∀ k∈ks,Ft h b k):Ft h (b+1) (.mk 5 [] n ns ks)
def szB:Nat→Nat
  | 0=>20
  | b+1=>4 * szB b+30
theorem nd_len:∀ {l m:List (List UInt8)},l.Nodup→(∀ s∈l,s∈m)→l.length≤m.length
  | [],m,_,_=>Nat.zero_le _
  | x::l,m,hn,hm=>by
    rw [List.nodup_cons] at hn
    have hx:=hm x List.mem_cons_self
    have:=nd_len (l:=l) (m:=m.erase x) hn.2 fun s hs=>(List.mem_erase_of_ne (by rintro rfl;exact hn.1 hs)).2 (hm s (List.mem_cons_of_mem _ hs))
    rw [List.length_erase_of_mem hx] at this
    have:=List.length_pos_of_mem hx
    rw [List.length_cons];omega
theorem sub4 {l:List (List UInt8)} (nd:l.Nodup) (hm:∀ s∈l,s∈nm4):l.length≤4:=nd_len nd hm
theorem szS4:∀ {l:List (List UInt8)},(∀ s∈l,s∈nm4)→szS l≤3 * l.length
  | [],_=>by simp [szS]
  | x::l,h=>by
    have h1:=szS4 (l:=l) fun s hs=>h s (List.mem_cons_of_mem _ hs)
    have h2:x.length≤2:=by
      have:=h x List.mem_cons_self
      simp only [nm4,List.mem_cons,List.not_mem_nil,or_false] at this
      rcases this with rfl|rfl|rfl|rfl <;> decide
    rw [szS,List.length_cons];omega
theorem szL_le {c:Nat}:∀ {l:List Ty},(∀ k∈l,k.sz≤c)→Ty.szL l≤(c+1) * l.length
  | [],_=>by simp [Ty.szL]
  | t::l,h=>by
    have h1:=szL_le (l:=l) fun k hk=>h k (List.mem_cons_of_mem _ hk)
    have h2:=h t List.mem_cons_self
    rw [Ty.szL,List.length_cons,Nat.mul_succ];omega
theorem Ft.sz {h:Int→Nat} {b:Nat} {t:Ty} (ht:Ft h b t):t.sz≤szB b:=by
  have pos:∀ b,20≤szB b:=fun b=>by cases b <;> simp only [szB] <;> omega
  induction ht with
  | leaf b k x hx _ _=>have:=pos b;have:=hx.1;simp only [Ty.sz,szS,Ty.szL];omega
  | list b t ht ih=>simp only [Ty.sz,szS,Ty.szL,szB,List.length_nil];omega
  | var b n hn=>have:=pos b;simp only [Ty.sz,szS,Ty.szL,List.length_nil];omega
  | rcd b n ns ks hn nd hm hl hk ih =>
    have h1:=sub4 nd hm
    have h2:=szS4 hm
    have h3:=szL_le ih
    have h4:(szB b+1) * ks.length≤(szB b+1) * 4:=Nat.mul_le_mul_left _ oq
    simp only [Ty.sz,szB,List.length_nil];omega
theorem Ft.ext {h h':Int→Nat} {b:Nat} {t:Ty} (ht:Ft h b t):(∀ o∈occs t,h' o.n=h o.n)→Ft h' b t:=by
  induction ht with
  | leaf b k x hx h5 h6=>intro _;exact .leaf b k x hx h5 h6
  | list b t ht ih=>intro ho;exact .list b t (ih fun o h=>ho o (occs_kid List.mem_cons_self h))
  | var b n hn=>intro ho;exact .var b n ((ho _ occs_var).trans hn)
  | rcd b n ns ks hn nd hm hl hk ih =>
    intro ho
    exact .rcd b n ns ks (fun h0=>(ho _ (occs_row h0)).trans (hn h0)) nd hm hl fun k hk'=>ih k hk' fun o h=>ho o (occs_kid hk' h)
theorem Ft.v6 {h:Int→Nat} {b:Nat} {t:Ty} (ht:Ft h b t) (h6:t.kind=6):h t.n=b:=by
  cases ht with
  | leaf _ k x hx h5 h6'=>exact absurd h6 h6'
  | list b t ht=>exact absurd h6 zq
  | var _ n hn=>exact hn
  | rcd b n ns ks hn nd hm hl hk=>exact absurd h6 zq
theorem Ft.r5 {h:Int→Nat} {b:Nat} {t:Ty} (ht:Ft h b t) (h5:t.kind=5):∃ c,b=c+1∧(t.n≠0→h t.n=b)∧t.names.Nodup∧(∀ s∈t.names,s∈nm4)∧t.names.length=t.kids.length∧∀ k∈t.kids,Ft h c k:=by
  cases ht with
  | leaf _ k x hx h5' h6=>exact absurd h5 h5'
  | list b t ht=>exact absurd h5 zq
  | var _ n hn=>exact absurd h5 zq
  | rcd c n ns ks hn nd hm hl hk=>exact ⟨c,rfl,hn,nd,hm,hl,hk⟩
theorem Ft.kids {h:Int→Nat} {b:Nat} {t:Ty} (ht:Ft h b t) {k:Ty} (hk:k∈t.kids):∃ c,b=c+1∧Ft h c k:=by
  cases ht with
  | leaf _ k x hx h5' h6=>simp at hk
  | list b t ht=>simp at hk;subst hk;exact ⟨b,rfl,ht⟩
  | var _ n hn=>simp at hk
  | rcd c n ns ks hn nd hm hl hk'=>exact ⟨c,rfl,hk' k hk⟩
theorem Ft.recT {h:Int→Nat} {b:Nat} {l:Fd} {n:Int} (hnd:(l.map Prod.fst).Nodup) (hm:∀ p∈l,p.1∈nm4∧Ft h b p.2) (hn:n≠0→h n=b+1):Ft h (b+1) (recT l n):=by
  have hk:=recT_kids l n
  refine .rcd b n _ _ hn (lt_nodup (sSort_lt hnd)) (fun s hs=>?_) (by show _=(_root_.Go.Proofs.YtdikgijfekfaoaaGreatDoor.recT l n).kids.length;rw [hk,List.length_map]) (fun k hm'=>?_)
  · obtain ⟨p,hp,rfl⟩:=List.mem_map.1 ((sSort_perm _).mem_iff.1 hs)
    exact (hm p hp).1
  · have hm':k∈(_root_.Go.Proofs.YtdikgijfekfaoaaGreatDoor.recT l n).kids:=hm'
    rw [hk] at hm'
    obtain ⟨s,hs,rfl⟩:=List.mem_map.1 hm'
    obtain ⟨x,hx⟩:=Option.isSome_iff_exists.1 (mget_key.2 ((sSort_perm _).mem_iff.1 hs))
    rw [hx]
    exact (hm _ (mg_mem hx)).2
def StF (S:St) (h:Int→Nat):Prop:=∀ n x,mget n S=some x→x.bd=true→Ft h (h n) x.val
def Ev (P:Nat→Prop):Prop:=∃ N,∀ f,N≤f→P f
theorem Ev.and {P Q:Nat→Prop}:Ev P→Ev Q→Ev fun f=>P f∧Q f:=fun ⟨N,hN⟩ ⟨M,hM⟩=>⟨max N M,fun f hf=>⟨hN f oq,hM f oq⟩⟩
theorem Ev.mono {P Q:Nat→Prop} (h:∀ f,P f→Q f):Ev P→Ev Q:=fun ⟨N,hN⟩=>⟨N,fun f hf=>h f (hN f hf)⟩
theorem Ev.succ {P:Nat→Prop} (h:Ev fun f=>P (f+1)):Ev P:=by
  obtain ⟨N,hN⟩:=h
  refine ⟨N+1,fun f hf=>?_⟩
  obtain ⟨g,rfl⟩:∃ g,f=g+1:=⟨f - 1,by omega⟩
  exact hN g oq
theorem Ev.some {P:Nat→Prop} (h:Ev P):∃ f,P f:=by obtain ⟨N,hN⟩:=h;exact ⟨N,hN N (Nat.le_refl _)⟩
theorem Ev.of {P:Nat→Prop} (h:∀ f,P f):Ev P:=⟨0,fun f _=>h f⟩
section
variable {S:St} {h:Int→Nat} {rk:Int→Nat} (wf:Wf S) (hF:StF S h) (hr:Rk S rk)
include wf hF hr
theorem hdV_tot {b:Nat} (hb:szB b<lim):∀ (k:Nat) (t:Ty),Ft h b t→(t.kind=6→rk t.n<k)→∃ u,(∀ f,k+1≤f→hdV f S t=some u)∧Ft h b u
  | 0,t,ht,hk=>⟨t,fun f hf=>by
      obtain ⟨g,rfl⟩:∃ g,f=g+1:=⟨f - 1,by omega⟩
      rw [hdV,if_neg]
      intro h6;have:=hk h6;omega,ht⟩
  | k+1,t,ht,hk=>by
    by_cases h6:t.kind=6
    · cases hv:bdV S t.n with
      | none =>
        refine ⟨t,fun f hf=>?_,ht⟩
        obtain ⟨g,rfl⟩:∃ g,f=g+1:=⟨f - 1,by omega⟩
        rw [hdV,if_pos h6];simp only [hv]
      | some v =>
        obtain ⟨x,h1,h2,rfl⟩:=bdV_some hv
        have hfv:=hF _ x h1 h2
        rw [ht.v6 h6] at hfv
        obtain ⟨u,hu,hfu⟩:=hdV_tot hb k x.val hfv fun h6'=>by
          have ho:(⟨x.val.n,false,[]⟩:Occ)∈occs x.val:=by rw [← Ty.eta x.val,h6'];exact occs_var
          have:=hr _ x h1 h2 _ ho
          have:=hk h6
          simp only at *
          omega
        refine ⟨u,fun f hf=>?_,hfu⟩
        obtain ⟨g,rfl⟩:∃ g,f=g+1:=⟨f - 1,by omega⟩
        rw [hdV,if_pos h6]
        simp only [hv]
        rw [if_pos (Nat.lt_of_le_of_lt hfv.sz hb)]
        exact hu g oq
    · refine ⟨t,fun f hf=>?_,ht⟩
      obtain ⟨g,rfl⟩:∃ g,f=g+1:=⟨f - 1,by omega⟩
      rw [hdV,if_neg h6]
theorem hdR_tot {b:Nat} (hb:szB (b+1)<lim):∀ (k:Nat) (t:Ty) (l:Fd),Ft h (b+1) t→t.kind=5→(∀ x,bdV S t.n=some x→rk t.n<k)→(∀ x,bdV S t.n=some x→x.kind=5→True)→(l.map Prod.fst).Nodup→(∀ p∈l,p.1∈nm4∧Ft h b p.2)→rwS S (l.map Prod.fst) t →
    ∃ r,(∀ f,k+1≤f→hdR f S l t=some r)∧Ft h (b+1) r
  | k,t,l,ht,h5,hk,h9,hnd,hm,hv=>by
    obtain ⟨c,hc,hn,nd,hnm,hl,hkk⟩:=ht.r5 h5
    obtain rfl:b=c:=by omega
    have hnd':=addF_keys t hnd
    have hm':∀ p∈addF l t,p.1∈nm4∧Ft h b p.2:=fun p hp=>by
      rcases addF_mem hp with h|h
      · exact ⟨hnm _ h.1,hkk _ h.2⟩
      · exact hm p h
    have hg:t.sz<lim∧(addF l t).length<lim∧t.names.length=t.kids.length:=by
      refine ⟨Nat.lt_of_le_of_lt ht.sz hb,?_,hl⟩
      have:=sub4 hnd' (fun s hs=>by obtain ⟨p,hp,rfl⟩:=List.mem_map.1 hs;exact (hm' p hp).1)
      rw [List.length_map] at this
      exact Nat.lt_of_le_of_lt this dq
    cases hbv:bdV S t.n with
    | none =>
      refine ⟨recT (addF l t) t.n,fun f hf=>?_,Ft.recT hnd' hm' hn⟩
      obtain ⟨g,rfl⟩:∃ g,f=g+1:=⟨f - 1,by omega⟩
      rw [hdR,if_pos hg];simp only [hbv]
    | some v =>
      obtain ⟨x,h1,h2,rfl⟩:=bdV_some hbv
      have hlt:=hk _ hbv
      match k,hlt with
      | k+1,hlt =>
      have hn0:t.n≠0:=by intro e;rw [e,wf.zero] at h1;cases h1
      have hfv:=hF _ x h1 h2
      rw [hn hn0] at hfv
      obtain ⟨y,k1,k2,k3⟩:=hv.row hn0
      rw [h1] at k1;cases k1
      obtain ⟨s1,s2,_⟩:=hv.gt.sorted h5
      have hv':=(wf.rv _ x h1 h2 k2).congr (L':=(addF l t).map Prod.fst) (fun s=>by rw [k3,addF_key (lt_nodup s1) s2])
      obtain ⟨r,hr',hfr⟩:=hdR_tot hb k x.val (addF l t) hfv hv'.k5 (fun z hz=>by
        obtain ⟨w,w1,w2,_⟩:=bdV_some hz
        have hz0:x.val.n≠0:=by intro e;rw [e,wf.zero] at w1;cases w1
        have:=hr _ x h1 h2 _ (occs_row' hv'.k5 hz0)
        simp only at *
        omega) (fun _ _ _=>trivial) hnd' hm' hv'
      refine ⟨r,fun f hf=>?_,hfr⟩
      obtain ⟨g,rfl⟩:∃ g,f=g+1:=⟨f - 1,by omega⟩
      rw [hdR,if_pos hg];simp only [hbv]
      exact hr' g oq
  termination_by k=>k
theorem head_tot {b:Nat} (hb:szB b<lim) {t:Ty} (ht:Ft h b t) (hv:tyS S t):∃ r,Ev (fun f=>headF f S t=some r)∧Ft h b r:=by
  obtain ⟨u,hu,hfu⟩:=hdV_tot wf hF hr hb (rk t.n+1) t ht (fun _=>Nat.lt_succ_self _)
  have hvu:=(hdV_ok wf _ t u (hu _ (Nat.le_refl _)) hv).1
  by_cases h5:u.kind=5
  · cases hbv:bdV S u.n with
    | none =>
      refine ⟨u,⟨rk t.n+2,fun f hf=>?_⟩,hfu⟩
      show headF f S t=_
      unfold headF
      rw [hu f hf]
      simp only [if_pos h5,hbv]
    | some v =>
      obtain ⟨c,rfl,_⟩:=hfu.r5 h5
      obtain ⟨r,hr',hfr⟩:=hdR_tot wf hF hr hb (rk u.n+1) u [] hfu h5 (fun _ _=>Nat.lt_succ_self _) (fun _ _ _=>trivial) .nil zq (hvu.toR h5)
      refine ⟨r,⟨rk t.n+rk u.n+2,fun f hf=>?_⟩,hfr⟩
      show headF f S t=_
      unfold headF
      rw [hu f oq]
      simp only [if_pos h5,hbv]
      exact hr' f oq
  · refine ⟨u,⟨rk t.n+2,fun f hf=>?_⟩,hfu⟩
    show headF f S t=_
    unfold headF
    rw [hu f hf]
    simp only [if_neg h5]
theorem mapO_tot {b:Nat} (hR:∀ t,Ft h b t→tyS S t→∃ r,Ev (fun f=>resF f S t=some r)∧Ft h b r):∀ (l:List Ty),(∀ k∈l,Ft h b k∧tyS S k)→∃ rs,Ev (fun f=>mapO (resF f S) l=some rs)∧rs.length=l.length∧∀ k∈rs,Ft h b k
  | [],_=>⟨[],Ev.of fun f=>rfl,rfl,by simp⟩
  | t::l,hl=>by
    obtain ⟨r,h1,h2⟩:=hR t (hl t List.mem_cons_self).1 (hl t List.mem_cons_self).2
    obtain ⟨rs,k1,k2,k3⟩:=mapO_tot hR l fun k hk=>hl k (List.mem_cons_of_mem _ hk)
    refine ⟨r::rs,(h1.and k1).mono fun f hf=>?_,by simp [k2],fun k hk=>?_⟩
    · rw [mapO,hf.1];simp only [hf.2]
    · rcases List.mem_cons.1 hk with rfl|hk
      · exact h2
      · exact k3 k hk
omit wf hF hr in
theorem Ft.same {b:Nat} {t:Ty} (ht:Ft h b t) {ks:List Ty} (hl:ks.length=t.kids.length) (hk:∀ c,b=c+1→∀ k∈ks,Ft h c k):Ft h b (.mk t.kind t.name t.n t.names ks):=by
  cases ht with
  | leaf _ k x hx h5 h6=>simp at hl;subst hl;exact .leaf b k x hx h5 h6
  | list c t ht=>simp at hl;obtain ⟨r,rfl⟩:=List.length_eq_one_iff.1 hl;exact .list c r (hk c rfl r zq)
  | var _ n hn=>simp at hl;subst hl;exact .var b n hn
  | rcd c n ns ks' hn nd hm hl' hk'=>exact .rcd c n ns ks hn nd hm (by rw [hl'];exact hl.symm) (hk c rfl)
theorem res_of_head {b:Nat} (hb:szB b<lim) (hR:∀ c,b=c+1→∀ t,Ft h c t→tyS S t→∃ r,Ev (fun f=>resF f S t=some r)∧Ft h c r) {t u:Ty} (hu:Ev fun f=>headF f S t=some u) (hfu:Ft h b u) (hk:∀ k∈u.kids,tyS S k) :
    ∃ r,Ev (fun f=>resF f S t=some r)∧Ft h b r:=by
  have:∃ rs,Ev (fun f=>mapO (resF f S) u.kids=some rs)∧rs.length=u.kids.length∧∀ c,b=c+1→∀ k∈rs,Ft h c k:=by
    cases b with
    | zero =>
      have h0:u.kids=[]:=by
        cases hku:u.kids with
        | nil=>rfl
        | cons k l=>obtain ⟨c,hc,_⟩:=hfu.kids (k:=k) (by rw [hku];simp);omega
      rw [h0]
      exact ⟨[],Ev.of fun f=>rfl,rfl,by simp⟩
    | succ c =>
      obtain ⟨rs,h1,h2,h3⟩:=mapO_tot wf hF hr (hR c rfl) u.kids fun k hk'=>by
        obtain ⟨d,hd,hf⟩:=hfu.kids hk'
        obtain rfl:c=d:=by omega
        exact ⟨hf,hk k hk'⟩
      exact ⟨rs,h1,h2,fun d hd=>Nat.succ.inj hd▸h3⟩
  obtain ⟨rs,h1,h2,h3⟩:=this
  refine ⟨_,Ev.succ ((hu.and h1).mono fun f hf=>?_),hfu.same h2 h3⟩
  rw [resF,hf.1]
  simp only [hf.2]
  rw [if_pos (Nat.lt_of_le_of_lt hfu.sz hb)]
theorem res_tot:∀ (b:Nat) (_:szB b<lim) (t:Ty),Ft h b t→tyS S t→∃ r,Ev (fun f=>resF f S t=some r)∧Ft h b r
  | b,hb,t,ht,hv=>by
    obtain ⟨u,hu,hfu⟩:=head_tot wf hF hr hb ht hv
    have hvu:=hu.some
    obtain ⟨f,hf⟩:=hvu
    have hk:=(head_ok wf hf hv).1
    refine res_of_head wf hF hr hb (fun c hc t' ht' hv'=>?_) hu hfu fun k hk'=>hk.kid hk'
    subst hc
    exact res_tot c (by simp only [szB] at hb;omega) t' ht' hv'
end
def unbN (S:St):Nat:=(S.filter fun p=>!p.2.bd).length
def phi (S:St):Nat:=S.length+unbN S
theorem unb_set {k:Int} {v w:Vr}:∀ {S:St},mget k S=some w→unbN (mset k v S)+(if w.bd then 0 else 1)=unbN S+(if v.bd then 0 else 1)
  | [],h=>by simp [mget] at h
  | p::S,h=>by
    rw [mget] at h
    rw [mset]
    split at h
    · rename_i e
      rw [if_pos e]
      cases h
      unfold unbN
      cases hb:p.2.bd <;> cases hv:v.bd <;> simp [hb,hv]
    · rename_i e
      rw [if_neg e]
      have ih:=unb_set (v:=v) h
      unfold unbN at ih ⊢
      rw [List.filter_cons,List.filter_cons]
      cases hb:p.2.bd <;> simp <;> omega
theorem unb_new {k:Int} {v:Vr}:∀ {S:St},mget k S=none→unbN (mset k v S)=unbN S+(if v.bd then 0 else 1)
  | [],_=>by unfold unbN;cases hv:v.bd <;> simp [mset,hv]
  | p::S,h=>by
    rw [mget] at h
    split at h
    · cases h
    · rename_i e
      rw [mset,if_neg e]
      have ih:=unb_new (v:=v) h
      unfold unbN at ih ⊢
      rw [List.filter_cons,List.filter_cons]
      cases hb:p.2.bd <;> simp <;> omega
theorem unb_low (lv:Int):∀ (ks:List Int) (S:St),unbN (lowL lv ks S)=unbN S
  | [],S=>rfl
  | k::ks,S=>by
    rw [lowL,unb_low lv ks]
    cases hk:mget k S with
    | none=>rfl
    | some w =>
      have:=unb_set (k:=k) (v:={ w with lv:=min w.lv lv }) hk
      simp only at this ⊢
      omega
theorem unb_bind {S:St} {n:Int} {t:Ty} {x:Vr} (hx:mget n S=some x) (hb:x.bd=false) (ks:List Int):phi (mset n { x with bd:=true,val:=t } (lowL x.lv ks S))+1=phi S:=by
  obtain ⟨l,hl⟩:=((lowL_get x.lv ks S).2 n).1 x hx
  have h1:=unb_set (k:=n) (v:={ x with bd:=true,val:=t }) hl
  have h2:=unb_low x.lv ks S
  have h3:=mset_len (k:=n) (v:={ x with bd:=true,val:=t }) (l:=lowL x.lv ks S) (by rw [hl];rfl)
  have h4:=(lowL_get x.lv ks S).1
  simp only [hb] at h1
  unfold phi
  simp at h1
  omega
theorem phi_new {S:St} (wf:Wf S) (a b:Ty):phi (newV S a b)=phi S+2:=by
  unfold phi newV
  rw [mset_new' wf.fresh,unb_new wf.fresh]
  simp
  omega
structure RunU (S:St) (h:Int→Nat) (run:Nat→Option (Bool×St)) (ok:Bool) (S':St) (h':Int→Nat):Prop where
  ph:ok=true→phi S'≤phi S
  ev:Ev fun f=>run f=some (ok,S')
  stf:StF S' h'
  old:∀ n x,mget n S=some x→h' n=h n
theorem Ft.in {S:St} {h h':Int→Nat} {b:Nat} {t:Ty} (ht:Ft h b t) (ho:∀ n x,mget n S=some x→h' n=h n) (hi:∀ o∈occs t,∃ y,mget o.n S=some y∧y.row=o.row):Ft h' b t :=
  ht.ext fun o hm=>by obtain ⟨y,h1,_⟩:=hi o hm;exact ho _ y h1
theorem tyS.in {S:St} {t:Ty} (h:tyS S t):∀ o∈occs t,∃ y,mget o.n S=some y∧y.row=o.row:=fun o ho=>by
  obtain ⟨y,h1,h2,_⟩:=h.2 o ho;exact ⟨y,h1,h2⟩
theorem bind_tot {S:St} {h:Int→Nat} {n:Int} {t:Ty} {x:Vr} {b:Nat} (hi:Inv S) (hF:StF S h) (hb:szB b<lim) (hx:mget n S=some x) (hnb:x.bd=false) (hv:vV S x t) (hn:Hn S t) (hft:Ft h b t) (hnn:h n=b) :
    ∃ ok S',RunU S h (fun f=>bindF f S n t) ok S' h∧(ok=true→phi S'+1=phi S)∧(ok=false→S'=S):=by
  obtain ⟨wf,ρ,rk,hρ,hrk⟩:=hi
  have hkid:∀ k∈t.kids,tyS S k:=by
    cases hr:x.row with
    | true=>exact (hv.2 hr).kids
    | false=>exact fun k hk=>(hv.1 hr).kid hk
  obtain ⟨r,h1,h2⟩:=res_of_head wf hF hrk hb (fun c hc t' ht' hv'=>res_tot wf hF hrk c (by subst hc;simp only [szB] at hb;omega) t' ht' hv') (Ev.succ (Ev.of fun f=>headF_fix hn)) hft hkid
  have hvB:vB S x t:=⟨hv,fun hr=>hn (.inl (hv.2 hr).k5)⟩
  obtain ⟨f0,hf0⟩:=h1.some
  obtain ⟨q1,q2,q3⟩:=res_B wf hf0 hvB
  have hall:(visN [] r).all (fun k=>(mget k S).isSome)=true:=by
    rw [List.all_eq_true]
    intro k hk
    obtain ⟨o,ho,e⟩:=mem_occN.1 (mem_visN.1 hk)
    obtain ⟨y,y1,_⟩:=q1.in.2 o ho
    rw [← e,y1];rfl
  by_cases hc:(visN [] r).contains n=true
  · refine ⟨false,S,⟨fun h=>absurd h dq,h1.mono fun f hf=>?_,hF,fun _ _ _=>rfl⟩,fun h=>absurd h dq,fun _=>rfl⟩
    unfold bindF
    rw [hx,hf]
    simp only
    rw [if_pos ⟨Nat.lt_of_le_of_lt h2.sz hb,hall⟩,if_pos hc]
  · have hph:=unb_bind (t:=t) hx hnb (visN [] r)
    refine ⟨true,mset n { x with bd:=true,val:=t } (lowL x.lv (visN [] r) S),⟨fun _=>by omega,h1.mono fun f hf=>?_,fun m y hy hyb=>?_,fun _ _ _=>rfl⟩,fun _=>hph,fun h=>absurd h dq⟩
    · unfold bindF
      rw [hx,hf]
      simp only
      rw [if_pos ⟨Nat.lt_of_le_of_lt h2.sz hb,hall⟩,if_neg hc]
    · have hB:=bind_bnd (t:=t) hx (visN [] r)
      obtain ⟨z,z1,z2,z3,z4,z5⟩:=hB.at hy
      by_cases e:m=n
      · rw [(z4 e).2,e,hnn];exact hft
      · rw [(z5 e).2];exact hF m z z1 ((z5 e).1.symm.trans hyb)
def UTot (b:Nat):Prop:=∀ S h x y,phi S<lim→Inv S→StF S h→tyS S x→tyS S y→Ft h b x→Ft h b y→∃ ok S' h',RunU S h (fun f=>unifyF f S x y) ok S' h'
def und (D:Dn):Nat:=(nm4.filter fun s=>!isD D s).length
theorem filter_le {p q:List UInt8→Bool} (l:List (List UInt8)) (h:∀ s,p s=true→q s=true):(l.filter p).length≤(l.filter q).length:=by
  rw [← List.countP_eq_length_filter,← List.countP_eq_length_filter]
  exact List.countP_mono_left fun x _=>h x
theorem und_lt {D D':Dn} (h:∀ s,isD D s=true→isD D' s=true) {s:List UInt8} (hs:s∈nm4) (h0:isD D s=false) (h1:isD D' s=true):und D'<und D:=by
  have:∀ l:List (List UInt8),s∈l→(l.filter fun s=>!isD D' s).length<(l.filter fun s=>!isD D s).length:=by
    intro l
    induction l with
    | nil=>simp
    | cons a l ih =>
      intro hm
      have hle:(l.filter fun s=>!isD D' s).length≤(l.filter fun s=>!isD D s).length:=by
        refine filter_le l fun s hs=>?_
        cases hd:isD D s with
        | false=>rfl
        | true=>rw [h s hd] at hs;cases hs
      rw [List.filter_cons,List.filter_cons]
      by_cases e:a=s
      · subst e
        rw [h1,h0]
        simp only [Bool.not_true,Bool.not_false,if_true,List.length_cons]
        simp only [Bool.false_eq_true,if_false]
        omega
      · have hm':s∈l:=by rcases List.mem_cons.1 hm with h|h;exact absurd h.symm e;exact h
        have:=ih hm'
        cases hd:isD D a with
        | true=>rw [h a hd];simpa using this
        | false =>
          cases hd':isD D' a with
          | true=>simp;omega
          | false=>simpa using this
  exact this nm4 hs
theorem pass_tot {b:Nat} (hU:UTot b) {c:Ty} (kc:c.kind=5):∀ (ns:List (List UInt8)) (ks:List Ty) (S:St) (h:Int→Nat) (D:Dn) (ag:Bool),phi S<lim→ns.length=ks.length→Inv S→StF S h→tyS S c→Ft h (b+1) c→(∀ s∈ns,s∈nm4)→(∀ k∈ks,tyS S k∧Ft h b k) →
    ∃ ok S1 D1 ag1 h1,Ev (fun f=>passF (unifyF f) c ns ks S D ag=some (ok,S1,D1,ag1))∧StF S1 h1∧(∀ n x,mget n S=some x→h1 n=h n)∧(∀ s,isD D s=true→isD D1 s=true)∧(ag=false→ag1=true→und D1<und D)∧(ok=true→phi S1≤phi S)
  | [],ks,S,h,D,ag,hp,hl,hi,hF,hv,hf,hm,hk=>⟨true,S,D,ag,h,Ev.of fun f=>by simp [passF],hF,fun _ _ _=>rfl,fun _ h=>h,fun h1 h2=>(by rw [h1] at h2;cases h2),fun _=>Nat.le_refl _⟩
  | s::ns,[],S,h,D,ag,hp,hl,hi,hF,hv,hf,hm,hk=>by simp at hl
  | s::ns,k::ks,S,h,D,ag,hp,hl,hi,hF,hv,hf,hm,hk=>by
    obtain ⟨b1,b2,_⟩:=hv.1.sorted kc
    by_cases hc:idxS c.names s<0∨isD D s=true
    · obtain ⟨ok,S1,D1,ag1,h1,q1,q2⟩:=pass_tot hU kc ns ks S h D ag hp (by simpa using hl) hi hF hv hf (fun s hs=>hm s (List.mem_cons_of_mem _ hs)) (fun k hk'=>hk k (List.mem_cons_of_mem _ hk'))
      exact ⟨ok,S1,D1,ag1,h1,q1.mono fun f hf=>by rw [passF,if_pos hc];exact hf,q2⟩
    · have hc':¬ idxS c.names s<0∧¬ isD D s=true:=⟨fun h=>hc (.inl h),fun h=>hc (.inr h)⟩
      have hfg:=idx_fg (lt_nodup b1) b2 hc'.1
      have hvc:=hv.kid (fg_kid hfg)
      obtain ⟨d,hd,hfc⟩:=hf.kids (fg_kid hfg)
      obtain rfl:b=d:=by omega
      obtain ⟨hvk,hfk⟩:=hk k List.mem_cons_self
      obtain ⟨ok,S2,h2,rp,r1,r2,r3⟩:=hU S h _ _ hp hi hF hvk hvc hfk hfc
      obtain ⟨f0,hf0⟩:=r1.some
      have st:=unify_ok f0 _ _ _ _ _ hf0 hi hvk hvc
      have hs4:=hm s List.mem_cons_self
      have hd0:isD D s=false:=Bool.eq_false_iff.2 hc'.2
      have hD':∀ t,isD D t=true→isD (mset s true D) t=true:=fun t ht=>by rw [isD_mset];split <;> simp [ht]
      have hD1:isD (mset s true D) s=true:=by rw [isD_mset,if_pos rfl]
      cases ok with
      | true =>
        have hp2:=rp rfl
        obtain ⟨ok,S1,D1,ag1,h1,q1,q2,q3,q4,q5,q6⟩:=pass_tot hU kc ns ks S2 h2 (mset s true D) true oq (by simpa using hl) st.inv r2 (hv.ext st.ext) (hf.in r3 hv.in) (fun s hs=>hm s (List.mem_cons_of_mem _ hs))
          (fun k hk'=>⟨(hk k (List.mem_cons_of_mem _ hk')).1.ext st.ext,(hk k (List.mem_cons_of_mem _ hk')).2.in r3 (hk k (List.mem_cons_of_mem _ hk')).1.in⟩)
        refine ⟨ok,S1,D1,ag1,h1,(r1.and q1).mono fun f hf=>?_,q2,fun n x hx=>?_,fun t ht=>q4 t (hD' t ht),fun _ _=>und_lt (fun t ht=>q4 t (hD' t ht)) hs4 hd0 (q4 s hD1),fun ho=>by have:=q6 ho;omega⟩
        · rw [passF,if_neg hc];simp only [hf.1];exact hf.2
        · obtain ⟨x',hx',_⟩:=st.ext n x hx
          rw [q3 n x' hx',r3 n x hx]
      | false =>
        refine ⟨false,S2,mset s true D,true,h2,r1.mono fun f hf=>?_,r2,r3,hD',fun _ _=>und_lt hD' hs4 hd0 hD1,fun h=>absurd h dq⟩
        rw [passF,if_neg hc];simp only [hf]
theorem loop_tot {b:Nat} (hb:szB (b+1)<lim) (hU:UTot b):∀ (m:Nat) (S:St) (h:Int→Nat) (a c:Ty) (D:Dn),phi S<lim→und D≤m→Inv S→StF S h→tyS S a→tyS S c→a.kind=5→c.kind=5→Ft h (b+1) a→Ft h (b+1) c→dOk S a c D →
    ∃ ok S1 a1 c1 h1,(∃ N,∀ f,N≤f→∀ g,m+1≤g→loopF f (unifyF f) g S a c D=some (ok,S1,a1,c1))∧StF S1 h1∧(∀ n x,mget n S=some x→h1 n=h n)∧Ft h1 (b+1) a1∧Ft h1 (b+1) c1∧(ok=true→phi S1≤phi S)
  | m,S,h,a,c,D,hp,hm,hi,hF,ha,hc,ka,kc,fa,fc,hd=>by
    have hi':=hi
    obtain ⟨wf,ρ,rk,hρ,hrk⟩:=hi'
    obtain ⟨a',ea,fa'⟩:=head_tot wf hF hrk hb fa ha
    obtain ⟨c',ec,fc'⟩:=head_tot wf hF hrk hb fc hc
    obtain ⟨f1,hf1⟩:=ea.some
    obtain ⟨f2,hf2⟩:=ec.some
    obtain ⟨va,na,eqa⟩:=head_ok wf hf1 ha
    obtain ⟨vc,nc,eqc⟩:=head_ok wf hf2 hc
    have kk:∀ t t':Ty,tyS S t'→t.kind=5→sub ρ t'=sub ρ t→(t'.kind=5∨t'.kind=6→bdV S t'.n=none)→t'.kind=5:=by
      intro t t' hv k5 e hn
      have h1:(sub ρ t').kind=5:=by rw [e,sub_kind (by rw [k5];decide)];exact k5
      by_cases h6:t'.kind=6
      · obtain ⟨x,h2,h3⟩:=hv.var6 h6
        rw [sub_6 h6,hρ.free _ x h2 (bdV_none (hn (.inr h6)) h2),h3] at h1
        exact absurd h1 (by simp [idv])
      · rw [sub_kind h6] at h1;exact h1
    have ka':=kk a a' va ka (eqa ρ hρ.sol) na
    have kc':=kk c c' vc kc (eqc ρ hρ.sol) nc
    obtain ⟨d,hd1,_,nd,hnm,hl,hk⟩:=fa'.r5 ka'
    obtain rfl:b=d:=by omega
    obtain ⟨_,_,_,_,_,hlc,_⟩:=fc'.r5 kc'
    have hrok:rok a'∧rok c':=⟨⟨Nat.lt_of_le_of_lt fa'.sz hb,hl⟩,Nat.lt_of_le_of_lt fc'.sz hb,hlc⟩
    obtain ⟨ok,S1,D1,ag1,h1,q1,q2,q3,q4,q5,q6⟩:=pass_tot hU kc' a'.names a'.kids S h D false hp hl hi hF vc fc' hnm (fun k hk'=>⟨va.kid hk',hk k hk'⟩)
    obtain ⟨f3,hf3⟩:=q1.some
    obtain ⟨p1,p2,p3,p4,p5⟩:=pass_ok (unify_ok f3) kc' _ _ _ _ _ _ _ _ _ hf3 hl hi vc (fun k hk'=>va.kid hk')
    have fa1:=fa'.in q3 va.in
    have fc1:=fc'.in q3 vc.in
    obtain ⟨N,hN⟩:=(ea.and ec).and q1
    cases ok with
    | false =>
      refine ⟨false,S1,a',c',h1,⟨N,fun f hf g hg=>?_⟩,q2,q3,fa1,fc1,q6⟩
      obtain ⟨g,rfl⟩:∃ g',g=g'+1:=⟨g - 1,by omega⟩
      obtain ⟨⟨e1,e2⟩,e3⟩:=hN f hf
      rw [loopF,e1];simp only [e2];rw [if_pos hrok];simp only [e3]
    | true =>
      cases hag:ag1 with
      | false =>
        subst hag
        refine ⟨true,S1,a',c',h1,⟨N,fun f hf g hg=>?_⟩,q2,q3,fa1,fc1,q6⟩
        obtain ⟨g,rfl⟩:∃ g',g=g'+1:=⟨g - 1,by omega⟩
        obtain ⟨⟨e1,e2⟩,e3⟩:=hN f hf
        rw [loopF,e1];simp only [e2];rw [if_pos hrok];simp only [e3]
      | true =>
        subst hag
        have hlt:=q5 rfl rfl
        match m,hm with
        | 0,hm=>omega
        | m+1,hm =>
        obtain ⟨s1,s2,_⟩:=va.1.sorted ka'
        obtain ⟨r1,_⟩:=p4 rfl
        have hp1:=q6 rfl
        obtain ⟨ok,S2,a2,c2,h2,⟨M,hM⟩,w2,w3,w4,w5,w6⟩:=loop_tot hb hU m S1 h1 a' c' D1 oq oq p1 q2 (va.ext p2) (vc.ext p2) ka' kc' fa1 fc1 (fun s hs σ hσ=>by
          rcases r1 s hs with h|⟨x,y,g1,g2,g3⟩
          · rw [eqa σ (p3 σ hσ),eqc σ (p3 σ hσ)];exact hd s h σ (p3 σ hσ)
          · have hx:fg s a'=some x:=mg_of (by rw [zip_fst' s2];exact lt_nodup s1) g1
            rw [va.field1 ka' (p3 σ hσ) hx,vc.field1 kc' (p3 σ hσ) g2,g3 σ hσ])
        refine ⟨ok,S2,a2,c2,h2,⟨max N M,fun f hf g hg=>?_⟩,w2,fun n x hx=>?_,w4,w5,fun ho=>by have:=w6 ho;omega⟩
        · obtain ⟨g,rfl⟩:∃ g',g=g'+1:=⟨g - 1,by omega⟩
          obtain ⟨⟨e1,e2⟩,e3⟩:=hN f oq
          rw [loopF,e1];simp only [e2];rw [if_pos hrok];simp only [e3]
          exact hM f oq g oq
        · obtain ⟨x',hx',_⟩:=p2 n x hx
          rw [w3 n x' hx',q3 n x hx]
  termination_by m=>m
theorem onT_Ft {h:Int→Nat} {b:Nat} {a c:Ty} {n:Int} (fa:Ft h (b+1) a) (ka:a.kind=5) (hn:n≠0→h n=b+1):Ft h (b+1) (onT a c n):=by
  obtain ⟨d,hd,_,nd,hnm,hl,hk⟩:=fa.r5 ka
  obtain rfl:b=d:=by omega
  refine Ft.recT (onL_keys a c _).1 (fun p hp=>?_) hn
  have hm:=mg_of (onL_keys a c a.names.length).1 (k:=p.1) (x:=p.2) hp
  obtain ⟨i,hi,e1,e2⟩:=((onL_get nd hl _ (Nat.le_refl _)).1 hm).2
  have hi':i<a.kids.length:=by omega
  rw [List.getD_eq_getElem?_getD,List.getElem?_eq_getElem hi] at e1
  rw [List.getD_eq_getElem?_getD,List.getElem?_eq_getElem hi'] at e2
  exact ⟨hnm _ (e1▸List.getElem_mem hi),e2▸hk _ (List.getElem_mem hi')⟩
theorem fin_tot {b:Nat} {S:St} {h:Int→Nat} {a c:Ty} (hb:szB (b+1)<lim) (hp:phi S<lim) (hi:Inv S) (hF:StF S h) (ha:tyS S a) (hc:tyS S c) (ka:a.kind=5) (kc:c.kind=5) (na:bdV S a.n=none) (nc:bdV S c.n=none) (fa:Ft h (b+1) a) (fc:Ft h (b+1) c) :
    ∃ ok S' h',RunU S h (fun f=>finF f S a c) ok S' h':=by
  have wf:=hi.1
  obtain ⟨a1,a2,_⟩:=ha.1.sorted ka
  obtain ⟨c1,c2,_⟩:=hc.1.sorted kc
  have a0:=ha.n0 ka
  have c0:=hc.n0 kc
  obtain ⟨d,hd,hna',_⟩:=fa.r5 ka
  obtain ⟨d',hd',hnc',_⟩:=fc.r5 kc
  have hg:(onT a c c.n).sz<lim∧(onT c a a.n).sz<lim:=⟨Nat.lt_of_le_of_lt (onT_Ft fa ka fun hn=>hnc' hn).sz hb,Nat.lt_of_le_of_lt (onT_Ft fc kc fun hn=>hna' hn).sz hb⟩
  by_cases e:a.n=c.n
  · refine ⟨decide ((onT a c c.n).names.length+(onT c a a.n).names.length=0),S,h,fun _=>Nat.le_refl _,Ev.of fun f=>?_,hF,fun _ _ _=>rfl⟩
    show finF f S a c=_
    unfold finF
    rw [if_pos hg,if_pos e]
  by_cases hz:(0<(onT a c c.n).names.length∧c.n=0)∨(0<(onT c a a.n).names.length∧a.n=0)
  · refine ⟨false,S,h,fun _=>Nat.le_refl _,Ev.of fun f=>?_,hF,fun _ _ _=>rfl⟩
    show finF f S a c=_
    unfold finF
    rw [if_pos hg,if_neg e,if_pos hz]
  by_cases hl:(onT a c c.n).names.length=0∧a.n≠0
  · have hsub:=names_nil (b:=c) (n:=c.n) (lt_nodup a1) a2 hl.1
    obtain ⟨x,h1,h2,h3⟩:=ha.var ka hl.2
    have hv:rwS S a.names (onT c a c.n):=onT_vR hc kc c0 fun hn'=>by
      obtain ⟨y,y1,y2,y3⟩:=hc.var kc hn'
      exact ⟨y,y1,y2,fun s=>by rw [y3];exact ⟨.inr,fun h=>h.elim (hsub s) id⟩⟩
    obtain ⟨ok,S',r,_,_⟩:=bind_tot (t:=onT c a c.n) hi hF hb h1 (bdV_none na h1) ⟨fun hf=>absurd (h2.symm.trans hf) dq,fun _=>by rw [h3];exact hv⟩ (Hn_of rfl nc) (onT_Ft fc kc (fun hn=>hnc' hn)) (hna' hl.2)
    refine ⟨ok,S',h,r.ph,r.ev.mono fun f hf=>?_,r.stf,r.old⟩
    show finF f S a c=_
    unfold finF
    rw [if_pos hg,if_neg e,if_neg hz,if_pos hl]
    exact hf
  by_cases hr:(onT c a a.n).names.length=0
  · have hn:c.n≠0:=by
      intro e0
      have hl1:¬ 0<(onT a c c.n).names.length:=fun hp=>hz (.inl ⟨hp,e0⟩)
      have hna:a.n=0:=Classical.byContradiction fun h0=>hl ⟨by omega,h0⟩
      exact e (hna.trans e0.symm)
    have hsub:=names_nil (b:=a) (n:=a.n) (lt_nodup c1) c2 hr
    obtain ⟨x,h1,h2,h3⟩:=hc.var kc hn
    have hv:rwS S c.names (onT a c a.n):=onT_vR ha ka a0 fun hn'=>by
      obtain ⟨y,y1,y2,y3⟩:=ha.var ka hn'
      exact ⟨y,y1,y2,fun s=>by rw [y3];exact ⟨.inr,fun h=>h.elim (hsub s) id⟩⟩
    obtain ⟨ok,S',r,_,_⟩:=bind_tot (t:=onT a c a.n) hi hF hb h1 (bdV_none nc h1) ⟨fun hf=>absurd (h2.symm.trans hf) dq,fun _=>by rw [h3];exact hv⟩ (Hn_of rfl na) (onT_Ft fa ka (fun hn=>hna' hn)) (hnc' hn)
    refine ⟨ok,S',h,r.ph,r.ev.mono fun f hf=>?_,r.stf,r.old⟩
    show finF f S a c=_
    unfold finF
    rw [if_pos hg,if_neg e,if_neg hz,if_neg hl,if_pos hr]
    exact hf
  have hla:¬ (onT a c c.n).names.length=0:=by
    intro e0
    have hn:a.n=0:=Classical.byContradiction fun h0=>hl ⟨e0,h0⟩
    exact hz (.inr ⟨by omega,hn⟩)
  have hna:a.n≠0:=fun e0=>hz (.inr ⟨by omega,e0⟩)
  have hnc:c.n≠0:=fun e0=>hz (.inl ⟨by omega,e0⟩)
  obtain ⟨v,hnew,hvr,hvn⟩:=newV_new wf a c
  have hi1:=hi.new hnew
  have he1:=hnew.ext wf
  have ha1:=ha.ext he1
  have hc1:=hc.ext he1
  obtain ⟨xa,xa1,xa2,xa3⟩:=ha.var ka hna
  obtain ⟨xc,xc1,xc2,xc3⟩:=hc.var kc hnc
  have hka:a.n≠((S.length+1:Nat):Int):=wf.ne xa1
  have hkc:c.n≠((S.length+1:Nat):Int):=wf.ne xc1
  have xa1':mget a.n (newV S a c)=some xa:=by rw [hnew.oth _ hka];exact xa1
  have xc1':mget c.n (newV S a c)=some xc:=by rw [hnew.oth _ hkc];exact xc1
  have hk0:bdV (newV S a c) ((S.length+1:Nat):Int)=none:=by rw [bdV_of hnew.at_,hnew.bd];rfl
  have hR:rwS (newV S a c) a.names (onT c a ((S.length+1:Nat):Int)):=onT_vR hc1 kc oq fun _=>⟨v,hnew.at_,hvr,fun s=>by rw [hvn,uniN_mem]⟩
  have hL:rwS (newV S a c) c.names (onT a c ((S.length+1:Nat):Int)):=onT_vR ha1 ka oq fun _=>⟨v,hnew.at_,hvr,fun s=>by rw [hvn,uniN_mem];exact or_comm⟩
  have hold:∀ n x,mget n S=some x→(fun m=>if m=((S.length+1:Nat):Int) then b+1 else h m) n=h n:=fun n x hx=>by simp only;rw [if_neg (wf.ne hx)]
  have hF1:StF (newV S a c) (fun m=>if m=((S.length+1:Nat):Int) then b+1 else h m):=fun m y hy hyb=>by
    by_cases e:m=((S.length+1:Nat):Int)
    · rw [e,hnew.at_] at hy;cases hy;rw [hnew.bd] at hyb;cases hyb
    · rw [hnew.oth m e] at hy
      simp only
      rw [if_neg e]
      exact (hF m y hy hyb).in hold (val_in wf hy hyb).2
  have fa1:=fa.in hold ha.in
  have fc1:=fc.in hold hc.in
  have hkk:(fun m=>if m=((S.length+1:Nat):Int) then b+1 else h m) ((S.length+1:Nat):Int)=b+1:=by simp
  have hphn:=phi_new wf a c
  have hpl:S.length<lim∧(mget a.n S).isSome=true∧(mget c.n S).isSome=true:=⟨by unfold phi at hp;omega,by rw [xa1];rfl,by rw [xc1];rfl⟩
  obtain ⟨ok1,S2,r1,r1p,_⟩:=bind_tot (t:=onT c a ((S.length+1:Nat):Int)) hi1 hF1 hb xa1' (bdV_none na xa1) ⟨fun hf=>absurd (xa2.symm.trans hf) dq,fun _=>by rw [xa3];exact hR⟩ (Hn_of rfl hk0) (onT_Ft fc1 kc fun _=>hkk) ((hold _ xa xa1).trans (hna' hna))
  obtain ⟨f0,hf0⟩:=r1.ev.some
  have st1:=bind_step hf0 hi1 xa1' (bdV_none na xa1) ⟨fun hf=>absurd (xa2.symm.trans hf) dq,fun _=>by rw [xa3];exact hR⟩ (Hn_of rfl hk0) (fun h6=>absurd h6 (by show ¬ (5:Int)=6;decide)) (fun _=>hka.symm)
  cases ok1 with
  | false =>
    refine ⟨false,S2,_,fun h=>absurd h dq,r1.ev.mono fun f hf=>?_,r1.stf,fun n x hx=>?_⟩
    · show finF f S a c=_
      unfold finF
      rw [if_pos hg,if_neg e,if_neg hz,if_neg hl,if_neg hr,if_pos hpl,hf]
    · exact hold n x hx
  | true =>
    obtain ⟨xc',yc1,yc2,yc3⟩:=st1.ext _ xc xc1'
    have hun:∀ m y,mget m (newV S a c)=some y→y.bd=false→m≠a.n→bdV S2 m=none:=by
      intro m y hy hyb hm
      unfold bindF at hf0
      rw [xa1'] at hf0
      simp only at hf0
      split at hf0 <;> try (cases hf0;done)
      split at hf0 <;> try (cases hf0;done)
      split at hf0
      · cases hf0
      · cases hf0
        have hB:=bind_bnd (t:=onT c a ((S.length+1:Nat):Int)) xa1' (visN [] ‹Ty›)
        obtain ⟨z,z1,z2,z3,_,z5⟩:=hB.fw _ y hy
        rw [bdV_of z1,(z5 hm).1,hyb];rfl
    have hnc2:=hun _ xc xc1' (bdV_none nc xc1) (fun e0=>e e0.symm)
    have hk2:=hun _ v hnew.at_ hnew.bd (fun e0=>hka e0.symm)
    obtain ⟨ok2,S3,r2,r2p,_⟩:=bind_tot (t:=onT a c ((S.length+1:Nat):Int)) st1.inv r1.stf hb yc1 (bdV_none hnc2 yc1) ⟨fun hf=>absurd (xc2.symm.trans (yc2.symm.trans hf)) dq,fun _=>by rw [yc3,xc3];exact hL.ext st1.ext⟩ (Hn_of rfl hk2) (onT_Ft fa1 ka fun _=>hkk) ((hold _ xc xc1).trans (hnc' hnc))
    refine ⟨ok2,S3,_,fun ho=>(by have:=r1p rfl;have:=r2p ho;omega),(r1.ev.and r2.ev).mono fun f hf=>?_,r2.stf,fun n x hx=>hold n x hx⟩
    show finF f S a c=_
    unfold finF
    rw [if_pos hg,if_neg e,if_neg hz,if_neg hl,if_neg hr,if_pos hpl,hf.1]
    exact hf.2
theorem rows_tot {b:Nat} (hb:szB (b+1)<lim) (hU:UTot b) {S:St} {h:Int→Nat} {a c:Ty} (hp:phi S<lim) (hi:Inv S) (hF:StF S h) (ha:tyS S a) (hc:tyS S c) (ka:a.kind=5) (kc:c.kind=5) (fa:Ft h (b+1) a) (fc:Ft h (b+1) c) :
    ∃ ok S' h',RunU S h (fun f=>rowsF f (unifyF f) S a c) ok S' h':=by
  have hd0:dOk S a c []:=fun s h=>by simp [isD,mget] at h
  obtain ⟨ok,S1,a1,c1,h1,⟨N,hN⟩,q2,q3,q4,q5,q6⟩:=loop_tot hb hU (und []) S h a c [] hp (Nat.le_refl _) hi hF ha hc ka kc fa fc hd0
  have hl:Ev fun f=>loopF f (unifyF f) f S a c []=some (ok,S1,a1,c1):=⟨N+und []+1,fun f hf=>hN f oq f oq⟩
  obtain ⟨f0,hf0⟩:=hl.some
  obtain ⟨l1,l2,l3,l4,l5⟩:=loop_ok (unify_ok f0) f0 S a c [] _ _ _ _ hf0 hi ha hc ka kc hd0
  cases ok with
  | false =>
    refine ⟨false,S1,h1,fun h=>absurd h dq,hl.mono fun f hf=>?_,q2,q3⟩
    show rowsF f (unifyF f) S a c=_
    unfold rowsF;rw [hf]
  | true =>
    obtain ⟨u1,u2,u3,u4,u5,u6,u7,u8⟩:=l4 rfl
    have hp1:=q6 rfl
    obtain ⟨ok,S2,h2,r⟩:=fin_tot hb oq l1 q2 u1 u2 u3 u4 u5 u6 q4 q5
    refine ⟨ok,S2,h2,fun ho=>(by have:=r.ph ho;omega),(hl.and r.ev).mono fun f hf=>?_,r.stf,fun n x hx=>?_⟩
    · show rowsF f (unifyF f) S a c=_
      unfold rowsF;rw [hf.1];exact hf.2
    · obtain ⟨x',hx',_⟩:=l2 n x hx
      rw [r.old n x' hx',q3 n x hx]
theorem Ft.k4 {h:Int→Nat} {b:Nat} {t:Ty} (ht:Ft h b t) (hg:Gt t) (h4:t.kind=4):∃ c,b=c+1∧Ft h c (t.kids.getD 0 Ty.zero)∧t.kids.getD 0 Ty.zero∈t.kids:=by
  cases ht with
  | leaf _ k x hx h5 h6 =>
    exfalso
    simp only [Ty.kind_mk] at h4
    subst h4
    generalize he:Ty.mk 4 x 0 [] []=t at hg
    cases hg with
    | leaf k x a b c=>cases he;exact a rfl
    | list t h=>cases he
    | var n h=>cases he
    | rcd n ns ks a b c d=>cases he
  | list c t ht=>exact ⟨c,rfl,ht,by simp⟩
  | var _ n hn=>exact absurd h4 zq
  | rcd c n ns ks hn nd hm hl hk'=>exact absurd h4 zq
theorem unify_step_tot {b:Nat} (hb:szB b<lim) (hU:∀ c,b=c+1→UTot c):UTot b:=by
  intro S h a c hp hi hF ha hc fa fc
  obtain ⟨wf,ρ,rk,hρ,hrk⟩:=hi
  have hi:Inv S:=⟨wf,ρ,rk,hρ,hrk⟩
  obtain ⟨a',ea,fa'⟩:=head_tot wf hF hrk hb fa ha
  obtain ⟨c',ec,fc'⟩:=head_tot wf hF hrk hb fc hc
  obtain ⟨f1,hf1⟩:=ea.some
  obtain ⟨f2,hf2⟩:=ec.some
  obtain ⟨va,na,eqa⟩:=head_ok wf hf1 ha
  obtain ⟨vc,nc,eqc⟩:=head_ok wf hf2 hc
  have hsz:a'.sz<lim∧c'.sz<lim:=⟨Nat.lt_of_le_of_lt fa'.sz hb,Nat.lt_of_le_of_lt fc'.sz hb⟩
  have go:∀ {run:Nat→Option (Bool×St)},(∀ f,headF f S a=some a'→headF f S c=some c'→unifyF (f+1) S a c=run f)→(∃ ok S' h',RunU S h run ok S' h')→∃ ok S' h',RunU S h (fun f=>unifyF f S a c) ok S' h':=by
    rintro run hrun ⟨ok,S',h',r⟩
    exact ⟨ok,S',h',r.ph,Ev.succ (((ea.and ec).and r.ev).mono fun f hf=>(hrun f hf.1.1 hf.1.2).trans hf.2),r.stf,r.old⟩
  have start:∀ f,headF f S a=some a'→headF f S c=some c'→unifyF (f+1) S a c=(if a'.kind=6∧c'.kind=6∧a'.n=c'.n then some (true,S)
          else if a'.kind=6 then bindF f S a'.n c'
          else if c'.kind=6 then bindF f S c'.n a'
          else if a'.kind≠c'.kind∨a'.name≠c'.name then some (false,S)
          else if a'.kind=5 then rowsF f (unifyF f) S a' c'
          else if a'.kind=4 then (if 0<a'.kids.length∧0<c'.kids.length then unifyF f S (a'.kids.getD 0 Ty.zero) (c'.kids.getD 0 Ty.zero) else none)
          else some (true,S)):=fun f h1 h2=>by
    rw [unifyF,h1];simp only [h2];rw [if_pos hsz]
  by_cases hcc:a'.kind=6∧c'.kind=6∧a'.n=c'.n
  · exact go (run:=fun _=>some (true,S)) (fun f h1 h2=>by rw [start f h1 h2,if_pos hcc]) ⟨true,S,h,fun _=>Nat.le_refl _,Ev.of fun _=>rfl,hF,fun _ _ _=>rfl⟩
  by_cases h6:a'.kind=6
  · obtain ⟨x,x1,x2⟩:=va.var6 h6
    obtain ⟨ok,S',r,_,_⟩:=bind_tot hi hF hb x1 (bdV_none (na (.inr h6)) x1) ⟨fun _=>vc,fun hr=>absurd (x2.symm.trans hr) dq⟩ nc fc' (fa'.v6 h6)
    exact go (fun f h1 h2=>by rw [start f h1 h2,if_neg hcc,if_pos h6]) ⟨ok,S',h,r⟩
  by_cases k6:c'.kind=6
  · obtain ⟨x,x1,x2⟩:=vc.var6 k6
    obtain ⟨ok,S',r,_,_⟩:=bind_tot hi hF hb x1 (bdV_none (nc (.inr k6)) x1) ⟨fun _=>va,fun hr=>absurd (x2.symm.trans hr) dq⟩ na fa' (fc'.v6 k6)
    exact go (fun f h1 h2=>by rw [start f h1 h2,if_neg hcc,if_neg h6,if_pos k6]) ⟨ok,S',h,r⟩
  by_cases hne:a'.kind≠c'.kind∨a'.name≠c'.name
  · exact go (run:=fun _=>some (false,S)) (fun f h1 h2=>by rw [start f h1 h2,if_neg hcc,if_neg h6,if_neg k6,if_pos hne]) ⟨false,S,h,fun _=>Nat.le_refl _,Ev.of fun _=>rfl,hF,fun _ _ _=>rfl⟩
  have hk:a'.kind=c'.kind:=Classical.byContradiction fun h=>hne (.inl h)
  by_cases h5:a'.kind=5
  · obtain ⟨d,rfl,_⟩:=fa'.r5 h5
    exact go (fun f h1 h2=>by rw [start f h1 h2,if_neg hcc,if_neg h6,if_neg k6,if_neg hne,if_pos h5]) (rows_tot hb (hU d rfl) hp hi hF va vc h5 (hk▸h5) fa' fc')
  by_cases h4:a'.kind=4
  · obtain ⟨d,rfl,g1,g2⟩:=fa'.k4 va.1 h4
    obtain ⟨d',hd',k1,k2⟩:=fc'.k4 vc.1 (hk▸h4)
    obtain rfl:d=d':=by omega
    exact go (fun f h1 h2=>by rw [start f h1 h2,if_neg hcc,if_neg h6,if_neg k6,if_neg hne,if_neg h5,if_pos h4,if_pos ⟨List.length_pos_of_mem g2,List.length_pos_of_mem k2⟩]) (hU d rfl S h _ _ hp hi hF (va.kid g2) (vc.kid k2) g1 k1)
  · exact go (run:=fun _=>some (true,S)) (fun f h1 h2=>by rw [start f h1 h2,if_neg hcc,if_neg h6,if_neg k6,if_neg hne,if_neg h5,if_neg h4]) ⟨true,S,h,fun _=>Nat.le_refl _,Ev.of fun _=>rfl,hF,fun _ _ _=>rfl⟩
theorem unify_tot:∀ b,szB b<lim→UTot b
  | 0,hb=>unify_step_tot hb fun c hc=>by omega
  | b+1,hb=>unify_step_tot hb fun c hc=>by
    obtain rfl:b=c:=by omega
    exact unify_tot b (by simp only [szB] at hb;omega)
end Go.Proofs.YtdikgijfekfaoaaGreatDoor
namespace Go.Proofs.YtdikgijfekfaoaaGreatDoor
open Go.Proofs.YtdikgijfekfaoaaGreatDoor.Abs
set_option maxRecDepth 20000
set_option maxHeartbeats 4000000
theorem refs_vr' (x:Vr):x.v.refs=[]:=bel_refs _ (by simp [Vr.v])
theorem refs_stm (l:St):(encM (AVal.int .i64) Vr.v l).flatMap (fun e=>e.1.refs++e.2.refs)=[]:=by
  rw [List.flatMap_eq_nil_iff]
  intro e he
  obtain ⟨p,_,rfl⟩:=List.mem_map.1 he
  simp [AVal.refs,refs_vr']
theorem renE_stm (r:Nat→Nat) (l:St):renE r (encM (AVal.int .i64) Vr.v l)=encM (AVal.int .i64) Vr.v l:=renE_id (k:=0) (fun i hi=>by omega) _ (encM_st 0 l)
theorem refs_fdm (l:Fd):(encM AVal.str Ty.v l).flatMap (fun e=>e.1.refs++e.2.refs)=[]:=by
  rw [List.flatMap_eq_nil_iff]
  intro e he
  obtain ⟨p,_,rfl⟩:=List.mem_map.1 he
  simp [AVal.refs,bel_refs _ (bel_tyv 0 p.2)]
theorem renE_fdm (r:Nat→Nat) (l:Fd):renE r (encM AVal.str Ty.v l)=encM AVal.str Ty.v l:=renE_id (k:=0) (fun i hi=>by omega) _ (encM_fd 0 l)
theorem head_split {f:Nat} {S:St} {t r:Ty} (h:headF f S t=some r):∃ U,hdV f S t=some U∧((¬ U.kind=5∧r=U)∨(U.kind=5∧bdV S U.n=none∧r=U)∨(U.kind=5∧(∃ v,bdV S U.n=some v)∧hdR f S [] U=some r)):=by
  unfold headF at h
  split at h <;> try (cases h;done)
  rename_i U hU
  refine ⟨U,hU,?_⟩
  split at h
  · rename_i h5
    split at h
    · rename_i v hv;exact .inr (.inr ⟨h5,⟨v,hv⟩,h⟩)
    · rename_i hn;cases h;exact .inr (.inl ⟨h5,hn,rfl⟩)
  · rename_i h5;cases h;exact .inl ⟨h5,rfl⟩
theorem hdV_next {g:Nat} {m:St} {u U:Ty} {x:Vr} (h:hdV g m u=some U) (h6:u.kind=6) (hx:mget u.n m=some x) (hb:x.bd=true):hdV (g - 1) m x.val=some U∧x.val.sz<100000000∧g - 1<g:=by
  cases g with
  | zero=>simp [hdV] at h
  | succ g =>
    rw [hdV,if_pos h6,bdV_of hx,if_pos hb] at h
    simp only at h
    split at h <;> try (cases h;done)
    rename_i hs
    exact ⟨h,hs,by omega⟩
theorem hdV_stop {g:Nat} {m:St} {u U:Ty} (h:hdV g m u=some U) (hn:u.kind=6→bdV m u.n=none):U=u:=by
  cases g with
  | zero=>simp [hdV] at h
  | succ g =>
    rw [hdV] at h
    split at h
    · rename_i h6
      rw [hn h6] at h
      cases h;rfl
    · cases h;rfl
theorem bd_no {m:St} {n:Int} (h:mget n m=none):bdV m n=none:=by unfold bdV;rw [h]
theorem bd_f {m:St} {n:Int} {x:Vr} (h:mget n m=some x) (hb:¬ x.bd=true):bdV m n=none:=by rw [bdV_of h,if_neg hb]
theorem bd_t {m:St} {n:Int} {x:Vr} (h:mget n m=some x) (hb:x.bd=true):bdV m n=some x.val:=by rw [bdV_of h,if_pos hb]
theorem hd_same {f:Nat} {S:St} {U r u:Ty} (h:(¬ U.kind=5∧r=U)∨(U.kind=5∧bdV S U.n=none∧r=U)∨(U.kind=5∧(∃ v,bdV S U.n=some v)∧hdR f S [] U=some r)) (e:U=u) (hn:¬ u.kind=5∨bdV S u.n=none):r=u:=by
  subst e
  rcases h with h|h|h
  · exact h.2
  · exact h.2.2
  · obtain ⟨v,hv⟩:=h.2.1
    rcases hn with hn|hn
    · exact absurd h.1 hn
    · rw [hn] at hv;cases hv
theorem hd_go {f:Nat} {S:St} {U r u v:Ty} (h:(¬ U.kind=5∧r=U)∨(U.kind=5∧bdV S U.n=none∧r=U)∨(U.kind=5∧(∃ v,bdV S U.n=some v)∧hdR f S [] U=some r)) (e:U=u) (h5:u.kind=5) (hb:bdV S u.n=some v):hdR f S [] u=some r:=by
  subst e
  rcases h with h|h|h
  · exact absurd h5 h.1
  · rw [h.2.1] at hb;cases hb
  · exact h.2.2
def addK (l:Fd) (t:Ty) (k:Nat):Fd:=((t.names.zip t.kids).take k).foldl (fun l p=>mset p.1 p.2 l) l
theorem addK_succ {l:Fd} {t:Ty} {k:Nat} (hk:k<t.names.length) (hl:t.names.length=t.kids.length):mset (t.names.getD k []) (t.kids.getD k Ty.zero) (addK l t k)=addK l t (k+1):=by
  have hz:k<(t.names.zip t.kids).length:=by rw [List.length_zip];omega
  unfold addK
  rw [List.take_succ_eq_append_getElem hz,List.foldl_append,List.getElem_zip,List.getD_eq_getElem?_getD,List.getD_eq_getElem?_getD,List.getElem?_eq_getElem hk,List.getElem?_eq_getElem (by omega:k<t.kids.length)]
  rfl
theorem addK_end {l:Fd} {t:Ty} {k:Nat} (hk:t.names.length≤k):addK l t k=addF l t:=by
  unfold addK addF
  rw [List.take_of_length_le (by rw [List.length_zip];omega)]
structure fdI (l:Fd):Prop where
  nd:(l.map Prod.fst).Nodup
  nm:∀ p∈l,p.1.length≤1000000000
theorem fdI_nil:fdI []:=⟨by simp,by simp⟩
theorem fdI_add {l:Fd} {t:Ty} (h:fdI l) (hs:t.sz<100000000):fdI (addF l t):=⟨addF_keys t h.nd,fun p hp=>by
  rcases addF_mem hp with h'|h'
  · obtain ⟨i,hi,e⟩:=List.getElem_of_mem h'.1
    have:=sz_names_at t i
    rw [List.getD_eq_getElem?_getD,List.getElem?_eq_getElem hi] at this
    rw [← e]
    have:(t.names[i]).length<t.sz:=this
    omega
  · exact h.nm p h'⟩
theorem hdR_g {g:Nat} {m:St} {l:Fd} {w r:Ty} (h:hdR g m l w=some r):w.sz<100000000∧(addF l w).length<100000000∧w.names.length=w.kids.length:=by
  cases g with
  | zero=>simp [hdR] at h
  | succ g =>
    rw [hdR] at h
    split at h <;> try (cases h;done)
    rename_i hs
    exact hs
theorem fd_okK {g k:Nat} {m:St} {l:Fd} {w r:Ty} (hI:fdI l) (h:hdR g m l w=some r) (hk:w.names.length≤k):fdOk (addK l w k):=by
  rw [addK_end hk]
  have hg:=hdR_g h
  exact ⟨(fdI_add hI hg.1).nd,(fdI_add hI hg.1).nm,hg.2.1⟩
theorem hdR_next {g:Nat} {m:St} {l:Fd} {w r:Ty} {x:Vr} (h:hdR g m l w=some r) (hx:mget w.n m=some x) (hb:x.bd=true):hdR (g - 1) m (addF l w) x.val=some r∧g - 1<g:=by
  have hs:=hdR_g h
  cases g with
  | zero=>simp [hdR] at h
  | succ g =>
    rw [hdR,if_pos hs,bd_t hx hb] at h
    exact ⟨h,by omega⟩
theorem hdR_stop {g:Nat} {m:St} {l:Fd} {w r:Ty} (h:hdR g m l w=some r) (hn:bdV m w.n=none):r=recT (addF l w) w.n:=by
  have hs:=hdR_g h
  cases g with
  | zero=>simp [hdR] at h
  | succ g =>
    rw [hdR,if_pos hs,hn] at h
    cases h;rfl
theorem record_at (u w:Ty) (l:Fd) (n:Int) (lv:Int) (m:St) (hl:fdOk l):CallsA cx 83 [.map 4,.int .i64 n] [bS lv,mS m,u.bx,.box zC,.map (encM AVal.str Ty.v l),w.bx] (fun v h=>v=(recT l n).v∧h=[bS lv,mS m,u.bx,.box zC,.map (encM AVal.str Ty.v l),w.bx]):=by
  refine CallsA_at [2,5,3,4] (record_spec u w l n hl) rfl dq zq (by simp [AObj.belO]) (by simp [renH,AObj.ren,renL,AVal.ren,lendR,renE_fdm]) rfl (by simp [renL,AVal.ren,lendR]) (by simp [Ty.v,AVal.ren,renL]) ?_
  simp [lendH,setAll,renH,AObj.ren,renL,AVal.ren,lendR,renE_fdm]
noncomputable def c106:Code:=bodyOf Tryz.f106
theorem head_S (f:Nat) (t r:Ty) (lv:Int) (m:St) (hs:t.sz<100000000) (hh:headF f m t=some r):CallsA cx 106 [.ptr 0 0,Ty.v t] (hpS lv m) (fun v h=>v=(Ty.v r)∧h=hpS lv m):=by
 obtain ⟨U,hU,hUr⟩:=head_split hh
 refine func_intro (cx:=cx) 87 2 [(ResultVar.cell 4 25)] Tryz.func106 rfl rfl rfl rfl rfl zq ?_
 show wpA cx 87 2 (at_ c106 []) _ _ _
 refine qZ [(0,.ptr 0 0),(1,Ty.v t)] [bS lv,mS m] ?_ ?_
 refine qW 2 [(0,.ptr 0 0),(3,.ptr 2 0),(4,.ptr 3 0)] [bS lv,mS m,t.bx,.box zC] ?_ ?_
 refine qSeq ?_ ?_
 refine qB 0 ?_ ?_ ?_
 refine wLoop (σ:=(Nat×Ty)) (fun ⟨g,u⟩=>[(0,.ptr 0 0),(3,.ptr 2 0),(4,.ptr 3 0)]) (fun ⟨g,u⟩=>[bS lv,mS m,u.bx,.box zC]) (fun ⟨g,u⟩=>hdV g m u=some U∧u.sz<100000000) (fun ⟨g,u⟩=>g) (f,t) kq (by exact ⟨hU,hs⟩) ⟨⟨kq,kq,kq,trivial⟩,by simp [BelL,AVal.bel],by simp,kq,by simp [AObj.belO]⟩ ?_
 rintro ⟨g,u⟩ ⟨hV,hus⟩
 refine qZ [(0,.ptr 0 0),(3,.ptr 2 0),(4,.ptr 3 0)] [bS lv,mS m,u.bx,.box zC] ?_ ?_
 refine qSeq ?_ ?_
 refine qSeq ?_ ?_
 refine wDrw cxM kq extThen (dstart ?_)
 refine qu 4 ?_ ?_
 by_cases hb1:(u.kind)=6
 refine dset 12 (.bool ((u.kind)==6)) (.bool true) (extD extThen) kq (congrArg AVal.bool (beq_iff_eq.2 hb1)) ?_
 refine dset 13 (.bool ((u.kind)==6)) (.bool true) (extD extThen) kq (congrArg AVal.bool (beq_iff_eq.2 hb1)) ?_
 refine qu 6 ?_ ?_
 rcases hm2:mget (u.n) m with _|x2
 refine qd (o_lookN (ok:=false) (o:=1) (ek:=(AVal.int .i64)) (ev:=Vr.v) (l:=m) (k:=(u.n)) keyI hm2 kq ty88 ty3 rfl ty93 kq) ?_ ?_ ?_ ?_
 refine qu 2 ?_ ?_
 refine dend kq ⟨kq,?_⟩
 refine AThen_normal ?_
 refine qZ [(0,.ptr 0 0),(3,.ptr 2 0),(4,.ptr 3 0),(14,.ptr 0 0),(15,.ptr 0 0),(16,.ptr 0 1),(17,.map 1),(18,.ptr 2 2),(19,.int .i64 (u.n)),(20,.agg [.bool false,.int .i64 0,.bool false,.int .i64 0,.str [],.int .i64 0,.full [],.full [],.full []]),(21,.bool false),(22,.bool false)] [bS lv,mS m,u.bx,.box zC] ?_ ?_
 refine wIfF kq kq ?_
 refine wExit 0 kq kq ?_
 refine AThen_exit ?_
 refine AThen_exit ?_
 refine AIn_exit ?_
 refine AThen_normal ?_
 refine qz [(0,.ptr 0 0),(3,.ptr 2 0),(4,.ptr 3 0)] ?_ ?_
 refine qSeq ?_ ?_
 refine qSeq ?_ ?_
 refine wDrw cxM kq extThen (dstart ?_)
 refine qu 4 ?_ ?_
 by_cases hb3:(u.kind)=5
 · exfalso;omega
 refine dset 33 (.bool ((u.kind) != 5)) (.bool true) (extD extThen) kq (congrArg AVal.bool (bne_iff_ne.2 hb3)) ?_
 refine dset 34 (.bool ((u.kind) != 5)) (.bool true) (extD extThen) kq (congrArg AVal.bool (bne_iff_ne.2 hb3)) ?_
 refine qu 10 ?_ ?_
 refine dend kq ⟨kq,?_⟩
 refine AThen_normal ?_
 refine qZ [(0,.ptr 0 0),(3,.ptr 2 0),(4,.ptr 3 0),(44,.bool true)] [bS lv,mS m,u.bx,.box zC] ?_ ?_
 refine wIfT kq kq ?_
 refine qW 2 [(4,.ptr 3 0)] [bS lv,mS m,u.bx,u.bx] ?_ ?_
 refine wRet kq ?_
 apply aR
 refine leafA (l:=[.agg [.int .i64 (u.kind),.str u.name,.int .i64 (u.n),.imm (u.names.map AVal.str),.imm (u.kids.map Ty.enc)]]) (.inr rfl) kq (by have e:=hd_same hUr (hdV_stop hV (fun h6=>by first|exact absurd h6 aq|exact bd_no aq|exact bd_f aq aq)) (by first|exact .inl oq|exact .inr (bd_no aq)|exact .inr (bd_f aq aq));subst e;simp [awrap,AVal.frz,frzL,Ty.v]) (by simp [awrap]) (by simp [awrap]) ?_ ?_
 refine Eq.trans (b:=[bS lv,mS m]) kq ?_
 · rfl
 rotate_left
 iterate 12 kernel_rfl
 refine qd (o_lookS (ok:=false) (o:=1) (ek:=(AVal.int .i64)) (ev:=Vr.v) (l:=m) (k:=(u.n)) (x:=x2) keyI hm2 kq ty88 ty3 rfl ty93 kq) ?_ ?_ ?_ ?_
 refine qu 2 ?_ ?_
 refine dend kq ⟨kq,?_⟩
 refine AThen_normal ?_
 refine qZ [(0,.ptr 0 0),(3,.ptr 2 0),(4,.ptr 3 0),(14,.ptr 0 0),(15,.ptr 0 0),(16,.ptr 0 1),(17,.map 1),(18,.ptr 2 2),(19,.int .i64 (u.n)),(20,Vr.v x2),(21,.bool (x2.bd)),(22,.bool (x2.bd))] [bS lv,mS m,u.bx,.box zC] ?_ ?_
 by_cases hb4:(x2.bd)=true
 refine qt (hb4) ?_ ?_
 refine qK ?_ ?_
 refine qz [(0,.ptr 0 0),(3,.ptr 2 0),(4,.ptr 3 0),(14,.ptr 0 0),(15,.ptr 0 0),(16,.ptr 0 1),(17,.map 1),(18,.ptr 2 2),(19,.int .i64 (u.n)),(20,Vr.v x2),(21,.bool (x2.bd))] ?_ ?_
 refine qB 1 ?_ ?_ ?_
 refine wDrw cxM kq (extIn extLoopA) (dstart ?_)
 refine qu 6 ?_ ?_
 have hm5:mget (u.n) m=some x2:=by assumption
 refine qd (o_lookS (ok:=false) (o:=1) (ek:=(AVal.int .i64)) (ev:=Vr.v) (l:=m) (k:=(u.n)) (x:=x2) keyI hm5 kq ty88 ty3 rfl ty93 kq) ?_ ?_ ?_ ?_
 refine qu 2 ?_ ?_
 refine dend kq ⟨kq,?_⟩
 refine AIn_normal ?_
 refine AThen_normal ⟨(g - 1,x2.val),?_,?_,⟨⟨kq,kq,kq,trivial⟩,by simp [BelL,AVal.bel],by simp,kq,by simp [AObj.belO]⟩⟩
 · try dsimp only
   exact (hdV_next hV oq aq aq).2.2
 · try dsimp only
   exact ⟨(hdV_next hV oq aq aq).1,(hdV_next hV oq aq aq).2.1⟩
 iterate 10 kernel_rfl
 refine qf (Bool.eq_false_iff.2 hb4) ?_ ?_
 refine wExit 0 kq kq ?_
 refine AThen_exit ?_
 refine AThen_exit ?_
 refine AIn_exit ?_
 refine AThen_normal ?_
 refine qz [(0,.ptr 0 0),(3,.ptr 2 0),(4,.ptr 3 0)] ?_ ?_
 refine qSeq ?_ ?_
 refine qSeq ?_ ?_
 refine wDrw cxM kq extThen (dstart ?_)
 refine qu 4 ?_ ?_
 by_cases hb6:(u.kind)=5
 · exfalso;omega
 refine dset 33 (.bool ((u.kind) != 5)) (.bool true) (extD extThen) kq (congrArg AVal.bool (bne_iff_ne.2 hb6)) ?_
 refine dset 34 (.bool ((u.kind) != 5)) (.bool true) (extD extThen) kq (congrArg AVal.bool (bne_iff_ne.2 hb6)) ?_
 refine qu 10 ?_ ?_
 refine dend kq ⟨kq,?_⟩
 refine AThen_normal ?_
 refine qZ [(0,.ptr 0 0),(3,.ptr 2 0),(4,.ptr 3 0),(44,.bool true)] [bS lv,mS m,u.bx,.box zC] ?_ ?_
 refine wIfT kq kq ?_
 refine qW 2 [(4,.ptr 3 0)] [bS lv,mS m,u.bx,u.bx] ?_ ?_
 refine wRet kq ?_
 apply aR
 refine leafA (l:=[.agg [.int .i64 (u.kind),.str u.name,.int .i64 (u.n),.imm (u.names.map AVal.str),.imm (u.kids.map Ty.enc)]]) (.inr rfl) kq (by have e:=hd_same hUr (hdV_stop hV (fun h6=>by first|exact absurd h6 aq|exact bd_no aq|exact bd_f aq aq)) (by first|exact .inl oq|exact .inr (bd_no aq)|exact .inr (bd_f aq aq));subst e;simp [awrap,AVal.frz,frzL,Ty.v]) (by simp [awrap]) (by simp [awrap]) ?_ ?_
 refine Eq.trans (b:=[bS lv,mS m]) kq ?_
 · rfl
 rotate_left
 iterate 14 kernel_rfl
 refine dset 12 (.bool ((u.kind)==6)) (.bool false) (extD extThen) kq (congrArg AVal.bool (beq_eq_false_iff_ne.2 hb1)) ?_
 refine dset 13 (.bool ((u.kind)==6)) (.bool false) (extD extThen) kq (congrArg AVal.bool (beq_eq_false_iff_ne.2 hb1)) ?_
 refine qu 9 ?_ ?_
 refine dend kq ⟨kq,?_⟩
 refine AThen_normal ?_
 refine qZ [(0,.ptr 0 0),(3,.ptr 2 0),(4,.ptr 3 0),(14,.tup []),(15,.tup []),(16,.tup []),(17,.tup []),(18,.tup []),(19,.tup []),(20,.tup []),(21,.tup []),(22,.bool false)] [bS lv,mS m,u.bx,.box zC] ?_ ?_
 refine wIfF kq kq ?_
 refine wExit 0 kq kq ?_
 refine AThen_exit ?_
 refine AThen_exit ?_
 refine AIn_exit ?_
 refine AThen_normal ?_
 refine qz [(0,.ptr 0 0),(3,.ptr 2 0),(4,.ptr 3 0)] ?_ ?_
 refine qSeq ?_ ?_
 refine qSeq ?_ ?_
 refine wDrw cxM kq extThen (dstart ?_)
 refine qu 4 ?_ ?_
 by_cases hb7:(u.kind)=5
 refine dset 33 (.bool ((u.kind) != 5)) (.bool false) (extD extThen) kq (congrArg AVal.bool (bne_eq_false_iff_eq.2 hb7)) ?_
 refine dset 34 (.bool ((u.kind) != 5)) (.bool false) (extD extThen) kq (congrArg AVal.bool (bne_eq_false_iff_eq.2 hb7)) ?_
 refine qu 6 ?_ ?_
 rcases hm8:mget (u.n) m with _|x8
 refine qd (o_lookN (ok:=false) (o:=1) (ek:=(AVal.int .i64)) (ev:=Vr.v) (l:=m) (k:=(u.n)) keyI hm8 kq ty88 ty3 rfl ty93 kq) ?_ ?_ ?_ ?_
 refine qu 3 ?_ ?_
 refine dend kq ⟨kq,?_⟩
 refine AThen_normal ?_
 refine qZ [(0,.ptr 0 0),(3,.ptr 2 0),(4,.ptr 3 0),(44,.bool true)] [bS lv,mS m,u.bx,.box zC] ?_ ?_
 refine wIfT kq kq ?_
 refine qW 2 [(4,.ptr 3 0)] [bS lv,mS m,u.bx,u.bx] ?_ ?_
 refine wRet kq ?_
 apply aR
 refine leafA (l:=[.agg [.int .i64 (u.kind),.str u.name,.int .i64 (u.n),.imm (u.names.map AVal.str),.imm (u.kids.map Ty.enc)]]) (.inr rfl) kq (by have e:=hd_same hUr (hdV_stop hV (fun h6=>by first|exact absurd h6 aq|exact bd_no aq|exact bd_f aq aq)) (by first|exact .inl oq|exact .inr (bd_no aq)|exact .inr (bd_f aq aq));subst e;simp [awrap,AVal.frz,frzL,Ty.v]) (by simp [awrap]) (by simp [awrap]) ?_ ?_
 refine Eq.trans (b:=[bS lv,mS m]) kq ?_
 · rfl
 rotate_left
 iterate 6 kernel_rfl
 refine qd (o_lookS (ok:=false) (o:=1) (ek:=(AVal.int .i64)) (ev:=Vr.v) (l:=m) (k:=(u.n)) (x:=x8) keyI hm8 kq ty88 ty3 rfl ty93 kq) ?_ ?_ ?_ ?_
 refine qu 3 ?_ ?_
 refine dend kq ⟨kq,?_⟩
 refine AThen_normal ?_
 refine qZ [(0,.ptr 0 0),(3,.ptr 2 0),(4,.ptr 3 0),(44,.bool (!(x8.bd)))] [bS lv,mS m,u.bx,.box zC] ?_ ?_
 by_cases hb9:(x8.bd)=true
 refine qf (x:=(!(x8.bd))) (congrArg not (hb9)) ?_ ?_
 refine qK ?_ ?_
 refine qz [(0,.ptr 0 0),(3,.ptr 2 0),(4,.ptr 3 0)] ?_ ?_
 refine qW 2 [(0,.ptr 0 0),(3,.ptr 2 0),(4,.ptr 3 0),(5,.map 4)] [bS lv,mS m,u.bx,.box zC,.map (encM AVal.str Ty.v ([]:List (List UInt8×Ty)))] ?_ ?_
 refine qU 3 [(0,.ptr 0 0),(3,.ptr 2 0),(4,.ptr 3 0),(5,.map 4)] ?_ ?_
 refine qW 3 [(0,.ptr 0 0),(4,.ptr 3 0),(5,.map 4),(7,.ptr 5 0)] [bS lv,mS m,u.bx,.box zC,.map (encM AVal.str Ty.v ([]:List (List UInt8×Ty))),u.bx] ?_ ?_
 refine qB 2 ?_ ?_ ?_
 refine wLoop (σ:=(Nat×Fd×Ty)) (fun ⟨g,l,w⟩=>[(0,.ptr 0 0),(4,.ptr 3 0),(5,.map 4),(7,.ptr 5 0)]) (fun ⟨g,l,w⟩=>[bS lv,mS m,u.bx,.box zC,.map (encM AVal.str Ty.v l),w.bx]) (fun ⟨g,l,w⟩=>hdR g m l w=some r∧fdI l) (fun ⟨g,l,w⟩=>g) (f,([]:Fd),u) kq (by exact ⟨hd_go hUr (hdV_stop hV (fun h6=>by first|exact absurd h6 aq|exact bd_no aq|exact bd_f aq aq)) oq (bd_t aq aq),fdI_nil⟩) ⟨⟨kq,kq,kq,kq,trivial⟩,by simp [BelL,AVal.bel],by simp,kq,by simp [AObj.belO]⟩ ?_
 rintro ⟨g,l,w⟩ ⟨hR,hI⟩
 have hz5:=sz_names w
 obtain ⟨hz6,hz7,hz8⟩:=hdR_g hR
 refine qZ [(0,.ptr 0 0),(4,.ptr 3 0),(5,.map 4),(7,.ptr 5 0)] [bS lv,mS m,u.bx,.box zC,.map (encM AVal.str Ty.v l),w.bx] ?_ ?_
 refine qSeq ?_ ?_
 refine qB 3 ?_ ?_ ?_
 refine qSeq ?_ ?_
 refine qV 2 ?_ ?_
 refine qy (o_lenmap (l:=w.names) (enc:=AVal.str) kq ty22) ?_ ?_ ?_
 refine qR 1 [(0,.ptr 0 0),(4,.ptr 3 0),(5,.map 4),(7,.ptr 5 0),(58,.imm (w.names.map AVal.str)),(59,nI w.names.length),(60,.int .i64 0)] [bS lv,mS m,u.bx,.box zC,.map (encM AVal.str Ty.v l),w.bx] ?_ ?_
 refine qB 4 ?_ ?_ ?_
 refine wLoop (σ:=Nat) (fun k=>[(0,.ptr 0 0),(4,.ptr 3 0),(5,.map 4),(7,.ptr 5 0),(58,.imm (w.names.map AVal.str)),(59,.int .i64 ((w.names.length:Nat):Int)),(60,.int .i64 ((k:Nat):Int))]) (fun k=>[bS lv,mS m,u.bx,.box zC,.map (encM AVal.str Ty.v (addK l w k)),w.bx]) (fun k=>k≤w.names.length) (fun k=>w.names.length - k) 0 kq (by exact Nat.zero_le _) ⟨⟨kq,kq,kq,kq,kq,kq,kq,trivial⟩,by simp [BelL,AVal.bel],by simp,(Eq.trans (b:=[bS lv,mS m,u.bx,.box zC,.map (encM AVal.str Ty.v l),w.bx]) kq (by rfl)),by simp [AObj.belO]⟩ ?_
 rintro k hk
 refine qW 1 [(0,.ptr 0 0),(4,.ptr 3 0),(5,.map 4),(7,.ptr 5 0),(58,.imm (w.names.map AVal.str)),(59,nI w.names.length),(60,nI k),(61,.bool (decide (((k:Nat):Int)<((w.names.length:Nat):Int))))] [bS lv,mS m,u.bx,.box zC,.map (encM AVal.str Ty.v (addK l w k)),w.bx] ?_ ?_
 refine qSeq ?_ ?_
 by_cases hb10:((k:Nat):Int)<((w.names.length:Nat):Int)
 refine qt (decide_eq_true hb10) ?_ ?_
 refine qK ?_ ?_
 refine qz [(0,.ptr 0 0),(4,.ptr 3 0),(5,.map 4),(7,.ptr 5 0),(58,.imm (w.names.map AVal.str)),(59,nI w.names.length),(60,nI k)] ?_ ?_
 refine qSeq ?_ ?_
 refine qB 5 ?_ ?_ ?_
 refine qV 1 ?_ ?_
 refine qy (o_ixmap (k:=.i64) (l:=w.names) (enc:=AVal.str) (i:=((k:Nat):Int)) [] kq ty22 ty9 (fun _=>rfl) oq oq) ?_ ?_ ?_
 refine qR 3 [(0,.ptr 0 0),(4,.ptr 3 0),(5,.map 4),(7,.ptr 5 0),(8,nI k),(9,.str (w.names.getD k [])),(58,.imm (w.names.map AVal.str)),(59,nI w.names.length),(60,nI k)] [bS lv,mS m,u.bx,.box zC,.map (encM AVal.str Ty.v (addK l w k)),w.bx] ?_ ?_
 refine qo ?_ ?_
 refine qr 5 ?_ ?_
 refine qy ((o_ixmap (k:=.i64) (l:=w.kids) (enc:=Ty.enc) (i:=((k:Nat):Int)) Ty.zero kq ty23 ty25 ty_size oq oq).trans (congrArg (fun cs=>some (AVal.pimm cs 0,_)) (ty_cells (w.kids.getD k Ty.zero)))) ?_ ?_ ?_
 refine qr 1 ?_ ?_
 refine qY (o_mset (o:=4) (ek:=AVal.str) (ev:=Ty.v) (l:=(addK l w k)) (k:=(w.names.getD k [])) (x:=(w.kids.getD k Ty.zero)) keyS kq ty106 ty9 rfl kq kq) ?_ ?_ ?_
 refine qe ?_ ?_
 refine AIn_normal ?_
 refine AThen_normal ?_
 refine qZ [(0,.ptr 0 0),(4,.ptr 3 0),(5,.map 4),(7,.ptr 5 0),(58,.imm (w.names.map AVal.str)),(59,nI w.names.length),(60,nI k)] [bS lv,mS m,u.bx,.box zC,.map (encM AVal.str Ty.v (mset (w.names.getD k []) (w.kids.getD k Ty.zero) (addK l w k))),w.bx] ?_ ?_
 refine qo ?_ ?_
 refine qy (o_add (a:=((k:Nat):Int)) (b:=1) kq oq oq) ?_ ?_ ?_
 refine qr 1 ?_ ?_
 refine qe ?_ ?_
 refine AThen_normal ⟨k+1,?_,?_,⟨⟨kq,kq,kq,kq,kq,kq,kq,trivial⟩,by simp [BelL,AVal.bel],by simp,(Eq.trans (b:=[bS lv,mS m,u.bx,.box zC,.map (encM AVal.str Ty.v (mset (w.names.getD k []) (w.kids.getD k Ty.zero) (addK l w k))),w.bx]) kq (by rw [addK_succ oq hz8])),by simp [AObj.belO]⟩⟩
 · omega
 · omega
 iterate 24 kernel_rfl
 refine qf (decide_eq_false hb10) ?_ ?_
 refine wExit 4 kq kq ?_
 refine AThen_exit ?_
 refine AThen_exit ?_
 refine AIn_exit ?_
 refine AThen_normal ?_
 refine qz [(0,.ptr 0 0),(4,.ptr 3 0),(5,.map 4),(7,.ptr 5 0)] ?_ ?_
 refine qU 3 [(0,.ptr 0 0),(4,.ptr 3 0),(5,.map 4),(6,.int .i64 (w.n)),(7,.ptr 5 0)] ?_ ?_
 refine qV 5 ?_ ?_
 rcases hm11:mget (w.n) m with _|x11
 refine qy (o_lookN (ok:=false) (o:=1) (ek:=(AVal.int .i64)) (ev:=Vr.v) (l:=m) (k:=(w.n)) keyI hm11 kq ty88 ty3 rfl ty93 kq) ?_ ?_ ?_
 refine qR 2 [(0,.ptr 0 0),(4,.ptr 3 0),(5,.map 4),(6,.int .i64 (w.n)),(7,.ptr 5 0),(82,.bool true)] [bS lv,mS m,u.bx,.box zC,.map (encM AVal.str Ty.v (addK l w k)),w.bx] ?_ ?_
 refine wIfT kq kq ?_
 refine qV 2 ?_ ?_
 refine vcallH (args:=[.map 4,.int .i64 (w.n)]) (v:=Ty.v (recT (addK l w k) (w.n))) (h':=[bS lv,mS m,u.bx,.box zC,.map (encM AVal.str Ty.v (addK l w k)),w.bx]) [bS lv,mS m,u.bx,.box zC,.map (encM AVal.str Ty.v (addK l w k)),w.bx] kq kq kq kq kq (record_at u w (addK l w k) (w.n) lv m (fd_okK hI hR oq)) ?_
 refine qR 1 [(4,.ptr 3 0)] [bS lv,mS m,u.bx,(recT (addK l w k) (w.n)).bx,.map (encM AVal.str Ty.v (addK l w k)),w.bx] ?_ ?_
 refine wRet kq ?_
 apply iR
 apply aR
 apply aR
 apply iR
 refine leafA (l:=[.agg [.int .i64 ((recT (addK l w k) (w.n)).kind),.str (recT (addK l w k) (w.n)).name,.int .i64 ((recT (addK l w k) (w.n)).n),.imm ((recT (addK l w k) (w.n)).names.map AVal.str),.imm ((recT (addK l w k) (w.n)).kids.map Ty.enc)]]) (.inr rfl) kq (by obtain rfl:=hdR_stop hR (by first|exact bd_no aq|exact bd_f aq aq);simp [awrap,AVal.frz,frzL,Ty.v,addK_end (l:=l) (t:=w) (k:=k) oq]) (by simp [awrap]) (by simp [awrap]) ?_ ?_
 refine Eq.trans (b:=[bS lv,mS m]) kq ?_
 · rfl
 rotate_left
 iterate 5 kernel_rfl
 refine qy (o_lookS (ok:=false) (o:=1) (ek:=(AVal.int .i64)) (ev:=Vr.v) (l:=m) (k:=(w.n)) (x:=x11) keyI hm11 kq ty88 ty3 rfl ty93 kq) ?_ ?_ ?_
 refine qR 2 [(0,.ptr 0 0),(4,.ptr 3 0),(5,.map 4),(6,.int .i64 (w.n)),(7,.ptr 5 0),(82,.bool (!(x11.bd)))] [bS lv,mS m,u.bx,.box zC,.map (encM AVal.str Ty.v (addK l w k)),w.bx] ?_ ?_
 by_cases hb12:(x11.bd)=true
 refine qf (x:=(!(x11.bd))) (congrArg not (hb12)) ?_ ?_
 refine qk ?_ ?_
 refine AIn_normal ?_
 refine AThen_normal ?_
 refine qz [(0,.ptr 0 0),(4,.ptr 3 0),(5,.map 4),(6,.int .i64 (w.n)),(7,.ptr 5 0)] ?_ ?_
 refine qSeq ?_ ?_
 refine qU 1 [(0,.ptr 0 0),(4,.ptr 3 0),(5,.map 4),(6,.int .i64 (w.n)),(86,.agg [.int .i64 (w.kind),.str w.name,.int .i64 (w.n),.imm (w.names.map AVal.str),.imm (w.kids.map Ty.enc)])] ?_ ?_
 refine qo ?_ ?_
 refine qR 2 [(0,.ptr 0 0),(4,.ptr 3 0),(5,.map 4),(6,.int .i64 (w.n)),(7,.ptr 6 0)] [bS lv,mS m,u.bx,.box zC,.map (encM AVal.str Ty.v (addK l w k)),w.bx,w.bx] ?_ ?_
 refine wRenM [0,1,2,3,4,6] [(0,.ptr 0 0),(4,.ptr 3 0),(5,.map 4),(6,.int .i64 (w.n)),(7,.ptr 5 0)] [bS lv,mS m,u.bx,.box zC,.map (encM AVal.str Ty.v (addK l w k)),w.bx] dq dq (by simp [-List.map_append,-List.map_take,-List.map_drop,-List.append_assoc,AVal.refs,refsL,AObj.refs,AObj.isIter,objOk,Abs.renT,keepH,renO,AObj.ren,AVal.ren,renL,List.idxOf_cons,refs_stm,renE_stm,refs_fdm,renE_fdm]) (by simp [-List.map_append,-List.map_take,-List.map_drop,-List.append_assoc,AVal.refs,refsL,AObj.refs,AObj.isIter,objOk,Abs.renT,keepH,renO,AObj.ren,AVal.ren,renL,List.idxOf_cons,refs_stm,renE_stm,refs_fdm,renE_fdm]) (by simp [-List.map_append,-List.map_take,-List.map_drop,-List.append_assoc,AVal.refs,refsL,AObj.refs,AObj.isIter,objOk,Abs.renT,keepH,renO,AObj.ren,AVal.ren,renL,List.idxOf_cons,refs_stm,renE_stm,refs_fdm,renE_fdm]) (by simp [-List.map_append,-List.map_take,-List.map_drop,-List.append_assoc,AVal.refs,refsL,AObj.refs,AObj.isIter,objOk,Abs.renT,keepH,renO,AObj.ren,AVal.ren,renL,List.idxOf_cons,refs_stm,renE_stm,refs_fdm,renE_fdm]) ?_
 refine qZ [(0,.ptr 0 0),(4,.ptr 3 0),(5,.map 4),(6,.int .i64 (w.n)),(7,.ptr 5 0)] [bS lv,mS m,u.bx,.box zC,.map (encM AVal.str Ty.v (addK l w k)),w.bx] ?_ ?_
 refine qo ?_ ?_
 refine qr 5 ?_ ?_
 have hm13:mget (w.n) m=some x11:=by assumption
 refine qy (o_lookS (ok:=false) (o:=1) (ek:=(AVal.int .i64)) (ev:=Vr.v) (l:=m) (k:=(w.n)) (x:=x11) keyI hm13 kq ty88 ty3 rfl ty93 kq) ?_ ?_ ?_
 refine qr 2 ?_ ?_
 refine qe ?_ ?_
 refine AThen_normal ⟨(g - 1,addF l w,x11.val),?_,?_,⟨⟨kq,kq,kq,kq,trivial⟩,by simp [BelL,AVal.bel],by simp,(Eq.trans (b:=[bS lv,mS m,u.bx,.box zC,.map (encM AVal.str Ty.v (addK l w k)),x11.val.bx]) kq (by (try dsimp only);rw [addK_end oq])),by simp [AObj.belO]⟩⟩
 · try dsimp only
   exact (hdR_next hR aq aq).2
 · try dsimp only
   exact ⟨(hdR_next hR aq aq).1,fdI_add hI oq⟩
 iterate 14 kernel_rfl
 refine qt (x:=(!(x11.bd))) (congrArg not (Bool.eq_false_iff.2 hb12)) ?_ ?_
 refine qV 2 ?_ ?_
 refine vcallH (args:=[.map 4,.int .i64 (w.n)]) (v:=Ty.v (recT (addK l w k) (w.n))) (h':=[bS lv,mS m,u.bx,.box zC,.map (encM AVal.str Ty.v (addK l w k)),w.bx]) [bS lv,mS m,u.bx,.box zC,.map (encM AVal.str Ty.v (addK l w k)),w.bx] kq kq kq kq kq (record_at u w (addK l w k) (w.n) lv m (fd_okK hI hR oq)) ?_
 refine qR 1 [(4,.ptr 3 0)] [bS lv,mS m,u.bx,(recT (addK l w k) (w.n)).bx,.map (encM AVal.str Ty.v (addK l w k)),w.bx] ?_ ?_
 refine wRet kq ?_
 apply iR
 apply aR
 apply aR
 apply iR
 refine leafA (l:=[.agg [.int .i64 ((recT (addK l w k) (w.n)).kind),.str (recT (addK l w k) (w.n)).name,.int .i64 ((recT (addK l w k) (w.n)).n),.imm ((recT (addK l w k) (w.n)).names.map AVal.str),.imm ((recT (addK l w k) (w.n)).kids.map Ty.enc)]]) (.inr rfl) kq (by obtain rfl:=hdR_stop hR (by first|exact bd_no aq|exact bd_f aq aq);simp [awrap,AVal.frz,frzL,Ty.v,addK_end (l:=l) (t:=w) (k:=k) oq]) (by simp [awrap]) (by simp [awrap]) ?_ ?_
 refine Eq.trans (b:=[bS lv,mS m]) kq ?_
 · rfl
 rotate_left
 iterate 31 kernel_rfl
 refine qt (x:=(!(x8.bd))) (congrArg not (Bool.eq_false_iff.2 hb9)) ?_ ?_
 refine qW 2 [(4,.ptr 3 0)] [bS lv,mS m,u.bx,u.bx] ?_ ?_
 refine wRet kq ?_
 apply aR
 refine leafA (l:=[.agg [.int .i64 (u.kind),.str u.name,.int .i64 (u.n),.imm (u.names.map AVal.str),.imm (u.kids.map Ty.enc)]]) (.inr rfl) kq (by have e:=hd_same hUr (hdV_stop hV (fun h6=>by first|exact absurd h6 aq|exact bd_no aq|exact bd_f aq aq)) (by first|exact .inl oq|exact .inr (bd_no aq)|exact .inr (bd_f aq aq));subst e;simp [awrap,AVal.frz,frzL,Ty.v]) (by simp [awrap]) (by simp [awrap]) ?_ ?_
 refine Eq.trans (b:=[bS lv,mS m]) kq ?_
 · rfl
 rotate_left
 iterate 8 kernel_rfl
 refine dset 33 (.bool ((u.kind) != 5)) (.bool true) (extD extThen) kq (congrArg AVal.bool (bne_iff_ne.2 hb7)) ?_
 refine dset 34 (.bool ((u.kind) != 5)) (.bool true) (extD extThen) kq (congrArg AVal.bool (bne_iff_ne.2 hb7)) ?_
 refine qu 10 ?_ ?_
 refine dend kq ⟨kq,?_⟩
 refine AThen_normal ?_
 refine qZ [(0,.ptr 0 0),(3,.ptr 2 0),(4,.ptr 3 0),(44,.bool true)] [bS lv,mS m,u.bx,.box zC] ?_ ?_
 refine wIfT kq kq ?_
 refine qW 2 [(4,.ptr 3 0)] [bS lv,mS m,u.bx,u.bx] ?_ ?_
 refine wRet kq ?_
 apply aR
 refine leafA (l:=[.agg [.int .i64 (u.kind),.str u.name,.int .i64 (u.n),.imm (u.names.map AVal.str),.imm (u.kids.map Ty.enc)]]) (.inr rfl) kq (by have e:=hd_same hUr (hdV_stop hV (fun h6=>by first|exact absurd h6 aq|exact bd_no aq|exact bd_f aq aq)) (by first|exact .inl oq|exact .inr (bd_no aq)|exact .inr (bd_f aq aq));subst e;simp [awrap,AVal.frz,frzL,Ty.v]) (by simp [awrap]) (by simp [awrap]) ?_ ?_
 refine Eq.trans (b:=[bS lv,mS m]) kq ?_
 · rfl
 rotate_left
 iterate 18 kernel_rfl
 all_goals
  simp [AObj.belO,hpS,Ty.v]
end Go.Proofs.YtdikgijfekfaoaaGreatDoor
namespace Go.Proofs.YtdikgijfekfaoaaGreatDoor
open Go.Proofs.YtdikgijfekfaoaaGreatDoor.Abs
set_option maxRecDepth 20000
set_option maxHeartbeats 4000000
theorem res_split {f:Nat} {S:St} {t r:Ty} (h:resF f S t=some r):∃ g q rs,f=g+1∧headF g S t=some q∧q.sz<100000000∧mapO (resF g S) q.kids=some rs∧r=.mk q.kind q.name q.n q.names rs:=by
  cases f with
  | zero=>simp [resF] at h
  | succ g =>
    rw [resF] at h
    split at h <;> try (cases h;done)
    rename_i q hq
    split at h <;> try (cases h;done)
    rename_i hs
    split at h <;> try (cases h;done)
    rename_i rs hrs
    cases h
    exact ⟨g,q,rs,rfl,hq,hs,hrs,rfl⟩
theorem mapO_at {g:Ty→Option Ty} {l rs:List Ty} (h:mapO g l=some rs):rs.length=l.length∧∀ i,i<l.length→g (l.getD i Ty.zero)=some (rs.getD i Ty.zero):=by
  obtain ⟨h1,h2⟩:=mapO_mem h
  refine ⟨h1,fun i hi=>h2 i _ _ ?_ ?_⟩
  · rw [List.getD_eq_getElem?_getD,List.getElem?_eq_getElem hi];rfl
  · rw [List.getD_eq_getElem?_getD,List.getElem?_eq_getElem (by omega:i<rs.length)];rfl
def rsL (rs ks:List Ty) (k:Nat):List Ty:=(List.range ks.length).map fun i=>if i<k then rs.getD i Ty.zero else ks.getD i Ty.zero
@[simp] theorem rsL_len (rs ks:List Ty) (k:Nat):(rsL rs ks k).length=ks.length:=by simp [rsL]
theorem rsL_get {rs ks:List Ty} {k i:Nat} (h:i<(rsL rs ks k).length):(rsL rs ks k)[i]=if i<k then rs.getD i Ty.zero else ks.getD i Ty.zero:=by simp [rsL]
theorem rsL_getD {rs ks:List Ty} {k:Nat} (h:k<ks.length):(rsL rs ks k).getD (0+k) Ty.zero=ks.getD k Ty.zero:=by
  have h':k<(rsL rs ks k).length:=by simpa using h
  rw [Nat.zero_add,List.getD_eq_getElem?_getD,List.getElem?_eq_getElem h',Option.getD_some,rsL_get,if_neg (Nat.lt_irrefl k)]
theorem rsL_set {rs ks:List Ty} {k:Nat}:(rsL rs ks k).set (0+k) (rs.getD k Ty.zero)=rsL rs ks (k+1):=by
  rw [Nat.zero_add]
  refine List.ext_getElem zq fun i h1 h2=>?_
  rw [List.getElem_set,rsL_get,rsL_get]
  by_cases e:k=i
  · subst e;rw [if_pos rfl,if_pos (Nat.lt_succ_self k)]
  · rw [if_neg e]
    by_cases h:i<k
    · rw [if_pos h,if_pos oq]
    · rw [if_neg h,if_neg oq]
theorem rsL_0 (rs ks:List Ty):rsL rs ks 0=ks:=by
  refine List.ext_getElem zq fun i h1 h2=>?_
  rw [rsL_get,if_neg oq,List.getD_eq_getElem?_getD,List.getElem?_eq_getElem h2];rfl
theorem rsL_end {rs ks:List Ty} {k:Nat} (hl:rs.length=ks.length) (h:ks.length≤k):rsL rs ks k=rs:=by
  refine List.ext_getElem (by simp [hl]) fun i h1 h2=>?_
  rw [rsL_get,if_pos oq,List.getD_eq_getElem?_getD,List.getElem?_eq_getElem h2];rfl
noncomputable def c68:Code:=bodyOf Tryz.f68
theorem resolve_S (f:Nat) (t r:Ty) (lv:Int) (m:St) (hs:t.sz<100000000) (hr:resF f m t=some r):CallsA cx 68 [.ptr 0 0,Ty.v t] (hpS lv m) (fun v h=>v=(Ty.v r)∧h=hpS lv m):=by
 induction f generalizing t r with
 | zero=>simp [resF] at hr
 | succ f ih =>
 obtain ⟨g,q,rs,e,hq,hqs,hrs,rfl⟩:=res_split hr
 obtain rfl:f=g:=by omega
 obtain ⟨hrl,hra⟩:=mapO_at hrs
 have ihR:∀ (x y:Ty),x.sz<100000000→resF f m x=some y→CallsA cx 68 [.ptr 0 0,Ty.v x] (hpS lv m) (fun v h=>v=y.v∧h=hpS lv m):=fun x y h1 h2=>ih x y h1 h2
 have hz2:=sz_kids q
 refine func_intro (cx:=cx) 29 2 [(ResultVar.cell 4 25)] Tryz.func68 rfl rfl rfl rfl rfl zq ?_
 show wpA cx 29 2 (at_ c68 []) _ _ _
 refine qZ [(0,.ptr 0 0),(1,Ty.v t)] [bS lv,mS m] ?_ ?_
 refine qW 2 [(0,.ptr 0 0),(3,.ptr 2 0),(4,.ptr 3 0)] [bS lv,mS m,t.bx,.box zC] ?_ ?_
 refine qV 2 ?_ ?_
 refine vcallA (args:=[.ptr 0 0,.agg [.int .i64 (t.kind),.str t.name,.int .i64 (t.n),.imm (t.names.map AVal.str),.imm (t.kids.map Ty.enc)]]) (hs:=[bS lv,mS m]) (hs':=[.box [.int .i64 ((lv)),.map 1],mS m]) (rest:=[t.bx,.box zC]) kq kq kq kq kq (head_S f t q (lv) m hs hq) (by simp [AObj.belO,hpS,Ty.v]) (by simp [AObj.belO,hpS,Ty.v]) rfl (by simp [AObj.belO,hpS,Ty.v]) (by simp [AObj.belO,hpS,Ty.v]) kq ?_
 refine vgrow1 (args:=[Ty.v q]) (args':=[Ty.v q]) (V':=.agg [.int .i64 (q.kind),.str q.name,.int .i64 (q.n),.imm (q.names.map AVal.str),.own 4 0 q.kids.length]) (F:=[.box [.int .i64 ((lv)),.map 1],mS m,t.bx,.box zC]) (G':=[.arr 5 (q.kids.map Ty.enc) 0]) kq kq kq kq (clone_raw q hqs) [.box [.int .i64 ((lv)),.map 1],mS m,t.bx,.box zC] kq (by simp [AVal.frz,frzL,AVal.ren,renL,renH,AObj.ren,lendR,frzH,ownsL,AVal.owns,recV,recH,Ty.v]) (by simp [AVal.frz,frzL,AVal.ren,renL,renH,AObj.ren,lendR,frzH,ownsL,AVal.owns,recV,recH,Ty.v]) (by simp [AVal.frz,frzL,AVal.ren,renL,renH,AObj.ren,lendR,frzH,ownsL,AVal.owns,recV,recH,Ty.v]) (by simp [AVal.frz,frzL,AVal.ren,renL,renH,AObj.ren,lendR,frzH,ownsL,AVal.owns,recV,recH,Ty.v]) (by simp [AVal.frz,frzL,AVal.ren,renL,renH,AObj.ren,lendR,frzH,ownsL,AVal.owns,recV,recH,Ty.v]) ?_
 refine qR 1 [(0,.ptr 0 0),(3,.ptr 2 0),(4,.ptr 3 0)] [.box [.int .i64 ((lv)),.map 1],mS m,.box [.int .i64 (q.kind),.str q.name,.int .i64 (q.n),.imm (q.names.map AVal.str),.own 4 0 q.kids.length],.box zC,.arr 5 (q.kids.map Ty.enc) 0] ?_ ?_
 refine qSeq ?_ ?_
 refine qV 2 ?_ ?_
 refine qy (o_lenown (o:=4) (off:=0) (len:=q.kids.length) (sz:=5) (es:=(q.kids.map Ty.enc)) (fr:=0) kq ty23 kq zq) ?_ ?_ ?_
 refine qR 1 [(0,.ptr 0 0),(3,.ptr 2 0),(4,.ptr 3 0),(12,nI q.kids.length),(13,.int .i64 0)] [.box [.int .i64 ((lv)),.map 1],mS m,.box [.int .i64 (q.kind),.str q.name,.int .i64 (q.n),.imm (q.names.map AVal.str),.own 4 0 q.kids.length],.box zC,.arr 5 (q.kids.map Ty.enc) 0] ?_ ?_
 refine qB 0 ?_ ?_ ?_
 refine wLoop (σ:=Nat) (fun k=>[(0,.ptr 0 0),(3,.ptr 2 0),(4,.ptr 3 0),(12,.int .i64 ((q.kids.length:Nat):Int)),(13,.int .i64 ((k:Nat):Int))]) (fun k=>[.box [.int .i64 ((lv)),.map 1],mS m,.box [.int .i64 (q.kind),.str q.name,.int .i64 (q.n),.imm (q.names.map AVal.str),.own 4 0 q.kids.length],.box zC,.arr 5 ((rsL rs q.kids k).map Ty.enc) 0]) (fun k=>k≤q.kids.length) (fun k=>q.kids.length - k) 0 kq (by exact Nat.zero_le _) ⟨⟨kq,kq,kq,kq,kq,trivial⟩,by simp [BelL,AVal.bel],by simp,(Eq.trans (b:=[.box [.int .i64 ((lv)),.map 1],mS m,.box [.int .i64 (q.kind),.str q.name,.int .i64 (q.n),.imm (q.names.map AVal.str),.own 4 0 q.kids.length],.box zC,.arr 5 (q.kids.map Ty.enc) 0]) kq (by rw [rsL_0])),by simp [AObj.belO]⟩ ?_
 rintro k hk
 refine qW 1 [(0,.ptr 0 0),(3,.ptr 2 0),(4,.ptr 3 0),(12,nI q.kids.length),(13,nI k),(14,.bool (decide (((k:Nat):Int)<((q.kids.length:Nat):Int))))] [.box [.int .i64 ((lv)),.map 1],mS m,.box [.int .i64 (q.kind),.str q.name,.int .i64 (q.n),.imm (q.names.map AVal.str),.own 4 0 q.kids.length],.box zC,.arr 5 ((rsL rs q.kids k).map Ty.enc) 0] ?_ ?_
 refine qSeq ?_ ?_
 by_cases hb1:((k:Nat):Int)<((q.kids.length:Nat):Int)
 refine qt (decide_eq_true hb1) ?_ ?_
 refine qK ?_ ?_
 refine qz [(0,.ptr 0 0),(3,.ptr 2 0),(4,.ptr 3 0),(12,nI q.kids.length),(13,nI k)] ?_ ?_
 refine qSeq ?_ ?_
 refine qB 1 ?_ ?_ ?_
 refine qU 2 [(0,.ptr 0 0),(3,.ptr 2 0),(4,.ptr 3 0),(5,nI k),(12,nI q.kids.length),(13,nI k)] ?_ ?_
 refine wDrw cxM kq (extIn extThen) (dstart ?_)
 refine qu 7 ?_ ?_
 refine qd (o_ixown (k:=.i64) (i:=((k:Nat):Int)) (o:=4) (off:=0) (len:=q.kids.length) (sz:=5) (fr:=0) (es:=((rsL rs q.kids k).map Ty.enc)) kq ty23 ty25 kq rfl zq oq oq) ?_ ?_ ?_ ?_
 refine qd (o_ldown (t:=25) (o:=4) (idx:=(0+k)) (off:=0) (k:=(((rsL rs q.kids k).map Ty.enc).length)) (sz:=5) (fr:=0) (es:=((rsL rs q.kids k).map Ty.enc)) (x:=Ty.enc ((rsL rs q.kids k).getD (0+k) Ty.zero)) (v:=.agg [.int .i64 (((rsL rs q.kids k).getD (0+k) Ty.zero).kind),.str ((rsL rs q.kids k).getD (0+k) Ty.zero).name,.int .i64 (((rsL rs q.kids k).getD (0+k) Ty.zero).n),.imm (((rsL rs q.kids k).getD (0+k) Ty.zero).names.map AVal.str),.imm (((rsL rs q.kids k).getD (0+k) Ty.zero).kids.map Ty.enc)]) kq kq zq (get_map _ _ _ _ (by simp only [rsL_len];omega)) (by rw [ty_cells];exact kq)) ?_ ?_ ?_ ?_
 refine dcallA (args:=[.ptr 0 0,.agg [.int .i64 (((rsL rs q.kids k).getD (0+k) Ty.zero).kind),.str ((rsL rs q.kids k).getD (0+k) Ty.zero).name,.int .i64 (((rsL rs q.kids k).getD (0+k) Ty.zero).n),.imm (((rsL rs q.kids k).getD (0+k) Ty.zero).names.map AVal.str),.imm (((rsL rs q.kids k).getD (0+k) Ty.zero).kids.map Ty.enc)]]) (hs:=[.box [.int .i64 ((lv)),.map 1],mS m]) (hs':=[.box [.int .i64 (((lv))),.map 1],mS m]) (rest:=[.box [.int .i64 (q.kind),.str q.name,.int .i64 (q.n),.imm (q.names.map AVal.str),.own 4 0 q.kids.length],.box zC,.arr 5 ((rsL rs q.kids k).map Ty.enc) 0]) (L:=[0,1]) kq kq kq kq kq kq (ihR ((rsL rs q.kids k).getD (0+k) Ty.zero) (rs.getD k Ty.zero) (by rw [rsL_getD oq];exact Nat.lt_trans (sz_kid q _ oq) hqs) (by rw [rsL_getD oq];exact hra k oq)) (by simp [AObj.belO,hpS,Ty.v]) (by simp [AObj.belO,hpS,Ty.v]) rfl (by simp [AObj.belO,hpS,Ty.v]) (by simp [AObj.belO,hpS,Ty.v]) kq rfl rfl ?_
 refine qd (o_ixown (k:=.i64) (i:=((k:Nat):Int)) (o:=4) (off:=0) (len:=q.kids.length) (sz:=5) (fr:=0) (es:=((rsL rs q.kids k).map Ty.enc)) kq ty23 ty25 kq rfl zq oq oq) ?_ ?_ ?_ ?_
 refine qD (o_stmap (o:=4) (k:=(((rsL rs q.kids k).map Ty.enc).length)) (x:=Ty.v (rs.getD k Ty.zero)) (enc:=Ty.enc) (l:=(rsL rs q.kids k)) (X:=(rs.getD k Ty.zero)) (d:=Ty.zero) (idx:=(0+k)) (sz:=5) kq (Ty.enc_v (rs.getD k Ty.zero)).symm kq zq (by simp only [rsL_len];omega) ty25 ty_ok2 ty_with) ?_ ?_ ?_ ?_
 refine dend kq ⟨kq,?_⟩
 refine AIn_normal ?_
 refine AThen_normal ?_
 refine qZ [(0,.ptr 0 0),(3,.ptr 2 0),(4,.ptr 3 0),(12,nI q.kids.length),(13,nI k)] [.box [.int .i64 (((lv))),.map 1],mS m,.box [.int .i64 (q.kind),.str q.name,.int .i64 (q.n),.imm (q.names.map AVal.str),.own 4 0 q.kids.length],.box zC,.arr 5 (((rsL rs q.kids k).set (0+k) (rs.getD k Ty.zero)).map Ty.enc) 0] ?_ ?_
 refine qo ?_ ?_
 refine qy (o_add (a:=((k:Nat):Int)) (b:=1) kq oq oq) ?_ ?_ ?_
 refine qr 1 ?_ ?_
 refine qe ?_ ?_
 refine AThen_normal ⟨k+1,?_,?_,⟨⟨kq,kq,kq,kq,kq,trivial⟩,by simp [BelL,AVal.bel],by simp,(Eq.trans (b:=[.box [.int .i64 (((lv))),.map 1],mS m,.box [.int .i64 (q.kind),.str q.name,.int .i64 (q.n),.imm (q.names.map AVal.str),.own 4 0 q.kids.length],.box zC,.arr 5 (((rsL rs q.kids k).set (0+k) (rs.getD k Ty.zero)).map Ty.enc) 0]) kq (by rw [rsL_set])),by simp [AObj.belO]⟩⟩
 · omega
 · omega
 iterate 26 kernel_rfl
 refine qf (decide_eq_false hb1) ?_ ?_
 refine wExit 0 kq kq ?_
 refine AThen_exit ?_
 refine AThen_exit ?_
 refine AIn_exit ?_
 refine AThen_normal ?_
 refine qz [(3,.ptr 2 0),(4,.ptr 3 0)] ?_ ?_
 refine wFrzC 2 4 4 (cs:=[.int .i64 (q.kind),.str q.name,.int .i64 (q.n),.imm (q.names.map AVal.str),.own 4 0 q.kids.length]) (es:=((rsL rs q.kids k).map Ty.enc)) (off:=0) (len:=q.kids.length) (sz:=5) (fr:=0) [.int .i64 (q.kind),.str q.name,.int .i64 (q.n),.imm (q.names.map AVal.str),.imm ((rsL rs q.kids k).map Ty.enc)] ((rsL rs q.kids k).map Ty.enc) dq kq kq kq zq kq kq ?_
 refine qZ [(3,.ptr 2 0),(4,.ptr 3 0)] [.box [.int .i64 ((lv)),.map 1],mS m,.box [.int .i64 (q.kind),.str q.name,.int .i64 (q.n),.imm (q.names.map AVal.str),.imm ((rsL rs q.kids k).map Ty.enc)],.box zC,.arr 5 ((rsL rs q.kids k).map Ty.enc) ((rsL rs q.kids k).map Ty.enc).length] ?_ ?_
 refine qW 2 [(4,.ptr 3 0)] [.box [.int .i64 ((lv)),.map 1],mS m,.box [.int .i64 (q.kind),.str q.name,.int .i64 (q.n),.imm (q.names.map AVal.str),.imm ((rsL rs q.kids k).map Ty.enc)],.box [.int .i64 (q.kind),.str q.name,.int .i64 (q.n),.imm (q.names.map AVal.str),.imm ((rsL rs q.kids k).map Ty.enc)],.arr 5 ((rsL rs q.kids k).map Ty.enc) ((rsL rs q.kids k).map Ty.enc).length] ?_ ?_
 refine wRet kq ?_
 refine leafA (l:=[.agg [.int .i64 (q.kind),.str q.name,.int .i64 (q.n),.imm (q.names.map AVal.str),.imm ((rsL rs q.kids k).map Ty.enc)]]) (.inr rfl) kq (by rw [rsL_end hrl oq];simp [Ty.v,AVal.frz,frzL,awrap]) (by simp [awrap]) (by simp [awrap]) ?_ ?_
 refine Eq.trans (b:=[.box [.int .i64 ((lv)),.map 1],mS m]) kq ?_
 · rfl
 · simp [AObj.belO,hpS,Ty.v]
 iterate 17 kernel_rfl
end Go.Proofs.YtdikgijfekfaoaaGreatDoor
