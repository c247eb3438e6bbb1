/- A part of the proof: plain lemmas, rules and walks. No condition. -/
import Derived.Test.YtdikgijfekfaoaaGreatDoorP3
import Derived.Sort.Walk0
import Derived.Test.YtdikgijfekfaoaaGreatDoorRows
import Derived.Lay
set_option linter.all false
namespace Go.Proofs.YtdikgijfekfaoaaGreatDoor
open Go.Proofs.YtdikgijfekfaoaaGreatDoor.Abs
set_option maxRecDepth 20000
set_option maxHeartbeats 4000000
theorem strs_true {a b:List (List UInt8)} (hl:a.length=b.length) (h:∀ i,i<a.length→a.getD i []=b.getD i []):true=(a==b):=by
  rw [← zipAll_eq,zipAll_true (·==·) [] [] a b hl (fun i hi=>by simpa using h i hi)]
theorem strs_at {a b:List (List UInt8)} {i:Nat} (hl:a.length=b.length) (hi:i<a.length) (h:¬ a.getD i []=b.getD i []):false=(a==b):=by
  rw [← zipAll_eq,zipAll_at (·==·) [] [] a b i hl hi (by simpa using h)]
theorem strs_len {a b:List (List UInt8)} (hl:¬ ((a.length:Nat):Int)=((b.length:Nat):Int)):false=(a==b):=by
  rw [← zipAll_eq,zipAll_len _ a b oq]
noncomputable def c57:Code:=bodyOf Tryz.f57
theorem slEqual_spec (a b:List (List UInt8)) (hn:a.length<1000000000):CallsP cx 57 [.imm (a.map AVal.str),.imm (b.map AVal.str)] (.bool (a==b)):=by
 refine func_intro (cx:=cx) 26 0 [(ResultVar.tmp 4)] Tryz.func57 rfl rfl rfl rfl rfl zq ?_
 show wpA cx 26 0 (at_ c57 []) _ _ _
 refine qZ [(0,.imm (a.map AVal.str)),(1,.imm (b.map AVal.str))] [] ?_ ?_
 refine qU 1 [(0,.imm (a.map AVal.str)),(1,.imm (b.map AVal.str))] ?_ ?_
 refine qSeq ?_ ?_
 refine qV 1 ?_ ?_
 refine qy (o_lenmap (l:=a) (enc:=AVal.str) kq ty22) ?_ ?_ ?_
 refine qr 1 ?_ ?_
 refine qy (o_lenmap (l:=b) (enc:=AVal.str) kq ty22) ?_ ?_ ?_
 refine qR 1 [(0,.imm (a.map AVal.str)),(1,.imm (b.map AVal.str)),(10,.bool (((a.length:Nat):Int) != ((b.length:Nat):Int)))] [] ?_ ?_
 by_cases hb1:((a.length:Nat):Int)=((b.length:Nat):Int)
 refine qf (x:=(((a.length:Nat):Int) != ((b.length:Nat):Int))) (bne_eq_false_iff_eq.2 hb1) ?_ ?_
 refine qK ?_ ?_
 refine qz [(0,.imm (a.map AVal.str)),(1,.imm (b.map AVal.str))] ?_ ?_
 refine qSeq ?_ ?_
 refine qV 1 ?_ ?_
 refine qy (o_lenmap (l:=a) (enc:=AVal.str) kq ty22) ?_ ?_ ?_
 refine qR 1 [(0,.imm (a.map AVal.str)),(1,.imm (b.map AVal.str)),(12,nI a.length),(13,.int .i64 0)] [] ?_ ?_
 refine qB 0 ?_ ?_ ?_
 refine wLoop (σ:=Nat) (fun k=>[(0,.imm (a.map AVal.str)),(1,.imm (b.map AVal.str)),(12,.int .i64 ((a.length:Nat):Int)),(13,.int .i64 ((k:Nat):Int))]) (fun k=>[]) (fun k=>k≤a.length∧∀ i,i<k→a.getD i []=b.getD i []) (fun k=>a.length - k) 0 kq zq ⟨⟨kq,kq,kq,kq,trivial⟩,by simp [BelL,AVal.bel],by simp,kq,by simp⟩ ?_
 rintro k ⟨hk,ha⟩
 refine qW 1 [(0,.imm (a.map AVal.str)),(1,.imm (b.map AVal.str)),(12,nI a.length),(13,nI k),(14,.bool (decide (((k:Nat):Int)<((a.length:Nat):Int))))] [] ?_ ?_
 refine qSeq ?_ ?_
 by_cases hb2:((k:Nat):Int)<((a.length:Nat):Int)
 refine qt (decide_eq_true hb2) ?_ ?_
 refine qK ?_ ?_
 refine qz [(0,.imm (a.map AVal.str)),(1,.imm (b.map AVal.str)),(12,nI a.length),(13,nI k)] ?_ ?_
 refine qSeq ?_ ?_
 refine qB 1 ?_ ?_ ?_
 refine qU 2 [(0,.imm (a.map AVal.str)),(1,.imm (b.map AVal.str)),(5,nI k),(12,nI a.length),(13,nI k)] ?_ ?_
 refine qSeq ?_ ?_
 refine wDrw cxM kq extThen (dstart ?_)
 refine qu 2 ?_ ?_
 refine qd (o_ixmap (k:=.i64) (l:=a) (enc:=AVal.str) (i:=((k:Nat):Int)) [] kq ty22 ty9 (fun _=>rfl) oq oq) ?_ ?_ ?_ ?_
 refine qu 3 ?_ ?_
 refine qd (o_ixmap (k:=.i64) (l:=b) (enc:=AVal.str) (i:=((k:Nat):Int)) [] kq ty22 ty9 (fun _=>rfl) oq oq) ?_ ?_ ?_ ?_
 refine qu 2 ?_ ?_
 refine dend kq ⟨kq,?_⟩
 refine AThen_normal ?_
 refine qZ [(0,.imm (a.map AVal.str)),(1,.imm (b.map AVal.str)),(12,nI a.length),(13,nI k),(24,.bool (!((a.getD k [])==(b.getD k []))))] [] ?_ ?_
 by_cases hb3:(a.getD k [])=(b.getD k [])
 refine qf (x:=(!((a.getD k [])==(b.getD k [])))) (congrArg not (beq_iff_eq.2 hb3)) ?_ ?_
 refine qk ?_ ?_
 refine AIn_normal ?_
 refine AThen_normal ?_
 refine qz [(0,.imm (a.map AVal.str)),(1,.imm (b.map AVal.str)),(12,nI a.length),(13,nI k)] ?_ ?_
 refine qo ?_ ?_
 refine qy (o_add (a:=((k:Nat):Int)) (b:=1) kq oq oq) ?_ ?_ ?_
 refine qr 1 ?_ ?_
 refine qe ?_ ?_
 refine AThen_normal ⟨k+1,?_,?_,⟨⟨kq,kq,kq,kq,trivial⟩,by simp [BelL,AVal.bel],by simp,kq,by simp⟩⟩
 · omega
 · refine ⟨by omega,fun i hi=>?_⟩
   rcases Nat.lt_succ_iff_lt_or_eq.1 hi with h|h
   · exact ha i h
   · subst h;assumption
 iterate 8 kernel_rfl
 refine qt (x:=(!((a.getD k [])==(b.getD k [])))) (congrArg not (beq_eq_false_iff_ne.2 hb3)) ?_ ?_
 refine qV 1 ?_ ?_
 refine qT ?_ ?_
 apply iR
 apply aR
 apply aR
 apply iR
 apply aR
 refine leafB (b:=false) (.inr rfl) kq ?_
 rotate_left
 iterate 21 kernel_rfl
 refine qf (decide_eq_false hb2) ?_ ?_
 refine wExit 0 kq kq ?_
 refine AThen_exit ?_
 refine AThen_exit ?_
 refine AIn_exit ?_
 refine AThen_normal ?_
 refine qz [] ?_ ?_
 refine qV 1 ?_ ?_
 refine qT ?_ ?_
 refine leafB (b:=true) (.inr rfl) kq ?_
 rotate_left
 iterate 16 kernel_rfl
 refine qt (x:=(((a.length:Nat):Int) != ((b.length:Nat):Int))) (bne_iff_ne.2 hb1) ?_ ?_
 refine qV 1 ?_ ?_
 refine qT ?_ ?_
 apply aR
 refine leafB (b:=false) (.inr rfl) kq ?_
 rotate_left
 iterate 13 kernel_rfl
 all_goals
  first|exact strs_len aq|exact strs_true oq (fun i hi=>ha i oq)|exact strs_at (i:=k) oq oq aq
noncomputable def c61:Code:=bodyOf Tryz.f61
theorem eqFunc_spec (a b:List Ty) (f:Nat) (p:Ty→Ty→Bool) (hc:∀ i,i<a.length→i<b.length→CallsP cx f [(a.getD i Ty.zero).v,(b.getD i Ty.zero).v] (.bool (p (a.getD i Ty.zero) (b.getD i Ty.zero)))) (hn:a.length<1000000000):CallsP cx 61 [.imm (a.map Ty.enc),.imm (b.map Ty.enc),.fn (.func f) [] []] (.bool (zipAll p a b)):=by
 refine func_intro (cx:=cx) 32 0 [(ResultVar.tmp 6)] Tryz.func61 rfl rfl rfl rfl rfl zq ?_
 show wpA cx 32 0 (at_ c61 []) _ _ _
 refine qZ [(0,.imm (a.map Ty.enc)),(1,.imm (b.map Ty.enc)),(2,.fn (.func f) [] [])] [] ?_ ?_
 refine qU 1 [(0,.imm (a.map Ty.enc)),(1,.imm (b.map Ty.enc)),(2,.fn (.func f) [] [])] ?_ ?_
 refine qSeq ?_ ?_
 refine qV 1 ?_ ?_
 refine qy (o_lenmap (l:=a) (enc:=Ty.enc) kq ty23) ?_ ?_ ?_
 refine qr 1 ?_ ?_
 refine qy (o_lenmap (l:=b) (enc:=Ty.enc) kq ty23) ?_ ?_ ?_
 refine qR 1 [(0,.imm (a.map Ty.enc)),(1,.imm (b.map Ty.enc)),(2,.fn (.func f) [] []),(14,.bool (((a.length:Nat):Int) != ((b.length:Nat):Int)))] [] ?_ ?_
 by_cases hb1:((a.length:Nat):Int)=((b.length:Nat):Int)
 refine qf (x:=(((a.length:Nat):Int) != ((b.length:Nat):Int))) (bne_eq_false_iff_eq.2 hb1) ?_ ?_
 refine qK ?_ ?_
 refine qz [(0,.imm (a.map Ty.enc)),(1,.imm (b.map Ty.enc)),(2,.fn (.func f) [] [])] ?_ ?_
 refine qSeq ?_ ?_
 refine qV 1 ?_ ?_
 refine qy (o_lenmap (l:=a) (enc:=Ty.enc) kq ty23) ?_ ?_ ?_
 refine qR 1 [(1,.imm (b.map Ty.enc)),(2,.fn (.func f) [] []),(15,.imm (a.map Ty.enc)),(16,nI a.length),(17,.int .i64 0)] [] ?_ ?_
 refine qB 0 ?_ ?_ ?_
 refine wLoop (σ:=Nat) (fun k=>[(1,.imm (b.map Ty.enc)),(2,.fn (.func f) [] []),(15,.imm (a.map Ty.enc)),(16,.int .i64 ((a.length:Nat):Int)),(17,.int .i64 ((k:Nat):Int))]) (fun k=>[]) (fun k=>k≤a.length∧∀ i,i<k→p (a.getD i Ty.zero) (b.getD i Ty.zero)=true) (fun k=>a.length - k) 0 kq zq ⟨⟨kq,kq,kq,kq,kq,trivial⟩,by simp [BelL,AVal.bel],by simp,kq,by simp⟩ ?_
 rintro k ⟨hk,ha⟩
 refine qW 1 [(1,.imm (b.map Ty.enc)),(2,.fn (.func f) [] []),(15,.imm (a.map Ty.enc)),(16,nI a.length),(17,nI k),(18,.bool (decide (((k:Nat):Int)<((a.length:Nat):Int))))] [] ?_ ?_
 refine qSeq ?_ ?_
 by_cases hb2:((k:Nat):Int)<((a.length:Nat):Int)
 refine qt (decide_eq_true hb2) ?_ ?_
 refine qK ?_ ?_
 refine qz [(1,.imm (b.map Ty.enc)),(2,.fn (.func f) [] []),(15,.imm (a.map Ty.enc)),(16,nI a.length),(17,nI k)] ?_ ?_
 refine qSeq ?_ ?_
 refine qB 1 ?_ ?_ ?_
 refine qV 1 ?_ ?_
 refine qy ((o_ixmap (k:=.i64) (l:=a) (enc:=Ty.enc) (i:=((k:Nat):Int)) Ty.zero kq ty23 ty25 ty_size oq oq).trans (congrArg (fun cs=>some (AVal.pimm cs 0,_)) (ty_cells (a.getD k Ty.zero)))) ?_ ?_ ?_
 refine qR 4 [(1,.imm (b.map Ty.enc)),(2,.fn (.func f) [] []),(7,nI k),(8,.ptr 0 0),(15,.imm (a.map Ty.enc)),(16,nI a.length),(17,nI k)] [(a.getD k Ty.zero).bx] ?_ ?_
 refine qV 2 ?_ ?_
 refine qy ((o_ixmap (k:=.i64) (l:=b) (enc:=Ty.enc) (i:=((k:Nat):Int)) Ty.zero kq ty23 ty25 ty_size oq oq).trans (congrArg (fun cs=>some (AVal.pimm cs 0,_)) (ty_cells (b.getD k Ty.zero)))) ?_ ?_ ?_
 refine qR 3 [(1,.imm (b.map Ty.enc)),(2,.fn (.func f) [] []),(8,.ptr 0 0),(9,.ptr 1 0),(15,.imm (a.map Ty.enc)),(16,nI a.length),(17,nI k)] [(a.getD k Ty.zero).bx,(b.getD k Ty.zero).bx] ?_ ?_
 refine qV 3 ?_ ?_
 refine vcallP (args:=[.agg [.int .i64 ((a.getD k Ty.zero).kind),.str (a.getD k Ty.zero).name,.int .i64 ((a.getD k Ty.zero).n),.imm ((a.getD k Ty.zero).names.map AVal.str),.imm ((a.getD k Ty.zero).kids.map Ty.enc)],.agg [.int .i64 ((b.getD k Ty.zero).kind),.str (b.getD k Ty.zero).name,.int .i64 ((b.getD k Ty.zero).n),.imm ((b.getD k Ty.zero).names.map AVal.str),.imm ((b.getD k Ty.zero).kids.map Ty.enc)]]) kq kq kq kq (hc k oq oq) (by simp [Ty.v]) (by simp [Ty.v]) (by simp [Ty.v]) ?_
 refine qR 1 [(1,.imm (b.map Ty.enc)),(2,.fn (.func f) [] []),(15,.imm (a.map Ty.enc)),(16,nI a.length),(17,nI k),(30,.bool (!(p (a.getD k Ty.zero) (b.getD k Ty.zero))))] [(a.getD k Ty.zero).bx,(b.getD k Ty.zero).bx] ?_ ?_
 by_cases hb3:(p (a.getD k Ty.zero) (b.getD k Ty.zero))=true
 refine qf (x:=(!(p (a.getD k Ty.zero) (b.getD k Ty.zero)))) (congrArg not (hb3)) ?_ ?_
 refine qk ?_ ?_
 refine AIn_normal ?_
 refine AThen_normal ?_
 refine qz [(1,.imm (b.map Ty.enc)),(2,.fn (.func f) [] []),(15,.imm (a.map Ty.enc)),(16,nI a.length),(17,nI k)] ?_ ?_
 refine qo ?_ ?_
 refine qy (o_add (a:=((k:Nat):Int)) (b:=1) kq oq oq) ?_ ?_ ?_
 refine qr 1 ?_ ?_
 refine qe ?_ ?_
 refine AThen_normal ⟨k+1,?_,?_,⟨⟨kq,kq,kq,kq,kq,trivial⟩,by simp [BelL,AVal.bel],by simp,kq,by simp⟩⟩
 · omega
 · refine ⟨by omega,fun i hi=>?_⟩
   rcases Nat.lt_succ_iff_lt_or_eq.1 hi with h|h
   · exact ha i h
   · subst h;assumption
 iterate 8 kernel_rfl
 refine qt (x:=(!(p (a.getD k Ty.zero) (b.getD k Ty.zero)))) (congrArg not (Bool.eq_false_iff.2 hb3)) ?_ ?_
 refine qV 1 ?_ ?_
 refine qT ?_ ?_
 apply iR
 apply aR
 apply aR
 apply iR
 apply aR
 refine leafB (b:=false) (.inr rfl) kq ?_
 rotate_left
 iterate 19 kernel_rfl
 refine qf (decide_eq_false hb2) ?_ ?_
 refine wExit 0 kq kq ?_
 refine AThen_exit ?_
 refine AThen_exit ?_
 refine AIn_exit ?_
 refine AThen_normal ?_
 refine qz [] ?_ ?_
 refine qV 1 ?_ ?_
 refine qT ?_ ?_
 refine leafB (b:=true) (.inr rfl) kq ?_
 rotate_left
 iterate 16 kernel_rfl
 refine qt (x:=(((a.length:Nat):Int) != ((b.length:Nat):Int))) (bne_iff_ne.2 hb1) ?_ ?_
 refine qV 1 ?_ ?_
 refine qT ?_ ?_
 apply aR
 refine leafB (b:=false) (.inr rfl) kq ?_
 rotate_left
 iterate 13 kernel_rfl
 all_goals
  first|exact (zipAll_len p a b oq).symm|exact (zipAll_true p Ty.zero Ty.zero a b oq (fun i hi=>ha i oq)).symm|exact (zipAll_at p Ty.zero Ty.zero a b k oq oq (Bool.eq_false_iff.2 aq)).symm
noncomputable def c16:Code:=bodyOf Tryz.f16
theorem tEqual_spec (a b:Ty) (hs:a.sz<100000000):CallsP cx 16 [Ty.v a,Ty.v b] (.bool (a.beq b)):=by
 induction hN:a.sz using Nat.strongRecOn generalizing a b with|_ N ih =>
 have hc:∀ i,i<a.kids.length→i<b.kids.length→CallsP cx 16 [(a.kids.getD i Ty.zero).v,(b.kids.getD i Ty.zero).v] (.bool ((a.kids.getD i Ty.zero).beq (b.kids.getD i Ty.zero))):=fun i h1 _=>ih _ (by rw [← hN];exact sz_kid a i h1) _ _ (Nat.lt_trans (sz_kid a i h1) hs) rfl
 have hz1:=sz_names a
 have hz2:=sz_kids a
 refine func_intro (cx:=cx) 38 0 [(ResultVar.tmp 4)] Tryz.func16 rfl rfl rfl rfl rfl zq ?_
 show wpA cx 38 0 (at_ c16 []) _ _ _
 refine qZ [(0,Ty.v a),(1,Ty.v b)] [] ?_ ?_
 refine qW 3 [(2,.ptr 0 0),(3,.ptr 1 0)] [a.bx,b.bx] ?_ ?_
 refine qV 6 ?_ ?_
 by_cases hb1:(a.kind)=(b.kind)
 refine qm [9,10] (beq_iff_eq.2 hb1) ?_ ?_
 refine qr 7 ?_ ?_
 by_cases hb2:a.name=b.name
 refine qm [15,16,17] (beq_iff_eq.2 hb2) ?_ ?_
 refine qr 7 ?_ ?_
 by_cases hb3:(a.n)=(b.n)
 refine qm [22,23,24] (beq_iff_eq.2 hb3) ?_ ?_
 refine qr 4 ?_ ?_
 refine vcallP (args:=[.imm (a.names.map AVal.str),.imm (b.names.map AVal.str)]) kq kq kq kq (slEqual_spec a.names b.names oq) (by simp [Ty.v]) (by simp [Ty.v]) (by simp [Ty.v]) ?_
 refine qr 2 ?_ ?_
 by_cases hb4:(a.names==b.names)=true
 refine qm [29,30,31] (hb4) ?_ ?_
 refine qr 4 ?_ ?_
 refine vcallP (args:=[.imm (a.kids.map Ty.enc),.imm (b.kids.map Ty.enc),.fn (.func 16) [] []]) kq kq kq kq (eqFunc_spec a.kids b.kids 16 Ty.beq (hc) oq) (by simp [Ty.v]) (by simp [Ty.v]) (by simp [Ty.v]) ?_
 refine qX 2 ?_ ?_
 refine leafB (b:=(zipAll Ty.beq a.kids b.kids)) (.inr rfl) kq ?_
 · simp [beq_eq, *]
 iterate 3 kernel_rfl
 refine qm [29,30,31] (Bool.eq_false_iff.2 hb4) ?_ ?_
 refine qX 7 ?_ ?_
 refine leafB (b:=false) (.inr rfl) kq ?_
 · simp [beq_eq, *]
 iterate 5 kernel_rfl
 refine qm [22,23,24] (beq_eq_false_iff_ne.2 hb3) ?_ ?_
 refine qX 14 ?_ ?_
 refine leafB (b:=false) (.inr rfl) kq ?_
 · simp [beq_eq, *]
 iterate 4 kernel_rfl
 refine qm [15,16,17] (beq_eq_false_iff_ne.2 hb2) ?_ ?_
 refine qX 21 ?_ ?_
 refine leafB (b:=false) (.inr rfl) kq ?_
 · simp [beq_eq, *]
 iterate 4 kernel_rfl
 refine qm [9,10] (beq_eq_false_iff_ne.2 hb1) ?_ ?_
 refine qX 28 ?_ ?_
 refine leafB (b:=false) (.inr rfl) kq ?_
 · simp [beq_eq, *]
 iterate 5 kernel_rfl
end Go.Proofs.YtdikgijfekfaoaaGreatDoor
namespace Go.Proofs.YtdikgijfekfaoaaGreatDoor
open Go.Proofs.YtdikgijfekfaoaaGreatDoor.Abs
set_option maxRecDepth 20000
set_option maxHeartbeats 4000000
def nmAt (l:List (List UInt8)) (i:Nat):Bool:=fitsW 2 (l.getD i []) && (i==0 || sLess (l.getD (i - 1) []) (l.getD i []))
def nmOk (l:List (List UInt8)):Bool:=(List.range l.length).all (nmAt l)
theorem nmOk_true {l:List (List UInt8)} (h:∀ i,i<l.length→nmAt l i=true):nmOk l=true:=by
  unfold nmOk;rw [List.all_eq_true];intro i hi;exact h i (List.mem_range.1 hi)
theorem nmOk_false {l:List (List UInt8)} {i:Nat} (hi:i<l.length) (h:nmAt l i=false):nmOk l=false:=by
  rw [Bool.eq_false_iff];intro hc;unfold nmOk at hc;rw [List.all_eq_true] at hc
  rw [hc i (List.mem_range.2 hi)] at h;cases h
def fmd (t:Ty):Bool :=
  if t.kind=0∨t.kind=1∨t.kind=2 then decide (t.name=[]∧t.n=0∧t.names.length=0∧t.kids.length=0)
  else if t.kind=3 then decide (t.n=0∧t.names.length=0∧t.kids.length=0∧upN t.name=true)
  else if t.kind=4 then decide (t.name=[]∧t.n=0∧t.names.length=0∧t.kids.length=1)
  else if t.kind=6 then decide (t.name=[]∧1≤t.n∧t.names.length=0∧t.kids.length=0)
  else if t.kind=5 then decide (nmOk t.names=true∧t.name=[]∧0≤t.n∧t.names.length=t.kids.length)
  else false
def idxS (l:List (List UInt8)) (s:List UInt8):Int:=match l.findIdx? (·==s) with
  | some i=>(i:Nat)
  | none=>-1
theorem idxS_some {l:List (List UInt8)} {s:List UInt8} {k:Nat} (hk:k<l.length) (ha:∀ i,i<k→¬ s=l.getD i []) (h:s=l.getD k []):((k:Nat):Int)=idxS l s:=by
  have e:∀ i (h:i<l.length),l.getD i []=l[i]:=fun i h=>by rw [List.getD_eq_getElem?_getD,List.getElem?_eq_getElem h];rfl
  have:l.findIdx? (·==s)=some k:=by
    rw [List.findIdx?_eq_some_iff_getElem]
    refine ⟨hk,by rw [← e k hk,← h];simp,fun j hj=>?_⟩
    have:=ha j hj
    rw [e j oq] at this
    simpa using fun h=>this h.symm
  simp [idxS,this]
theorem idxS_none {l:List (List UInt8)} {s:List UInt8} (ha:∀ i,i<l.length→¬ s=l.getD i []):-1=idxS l s:=by
  have:l.findIdx? (·==s)=none:=by
    rw [List.findIdx?_eq_none_iff]
    intro x hx
    obtain ⟨i,hi,rfl⟩:=List.getElem_of_mem hx
    have:=ha i hi
    rw [List.getD_eq_getElem?_getD,List.getElem?_eq_getElem hi] at this
    simpa using fun h:l[i]=s=>this h.symm
  simp [idxS,this]
theorem idxS_contains (l:List (List UInt8)) (s:List UInt8):decide (idxS l s ≥ 0)=l.contains s:=by
  rw [Bool.eq_iff_iff]
  simp only [decide_eq_true_eq,List.contains_iff_mem]
  unfold idxS
  split
  · rename_i i hi
    obtain ⟨h1,h2,_⟩:=List.findIdx?_eq_some_iff_getElem.1 hi
    simp at h2
    exact ⟨fun _=>h2▸List.getElem_mem h1,fun _=>by omega⟩
  · rename_i hi
    rw [List.findIdx?_eq_none_iff] at hi
    exact ⟨fun h=>by omega,fun h=>by have:=hi s h;simp at this⟩
noncomputable def c99:Code:=bodyOf Tryz.f99
theorem slIndex_spec (l:List (List UInt8)) (s:List UInt8) (hn:l.length<1000000000):CallsP cx 99 [.imm (l.map AVal.str),.str s] (.int .i64 (idxS l s)):=by
 refine func_intro (cx:=cx) 19 0 [(ResultVar.tmp 4)] Tryz.func99 rfl rfl rfl rfl rfl zq ?_
 show wpA cx 19 0 (at_ c99 []) _ _ _
 refine qZ [(0,.imm (l.map AVal.str)),(1,.str s)] [] ?_ ?_
 refine qU 1 [(0,.imm (l.map AVal.str)),(1,.str s)] ?_ ?_
 refine qSeq ?_ ?_
 refine qV 1 ?_ ?_
 refine qy (o_lenmap (l:=l) (enc:=AVal.str) kq ty22) ?_ ?_ ?_
 refine qR 1 [(0,.imm (l.map AVal.str)),(1,.str s),(7,nI l.length),(8,.int .i64 0)] [] ?_ ?_
 refine qB 0 ?_ ?_ ?_
 refine wLoop (σ:=Nat) (fun k=>[(0,.imm (l.map AVal.str)),(1,.str s),(7,.int .i64 ((l.length:Nat):Int)),(8,.int .i64 ((k:Nat):Int))]) (fun k=>[]) (fun k=>k≤l.length∧∀ i,i<k→¬ s=l.getD i []) (fun k=>l.length - k) 0 kq zq ⟨⟨kq,kq,kq,kq,trivial⟩,by simp [BelL,AVal.bel],by simp,kq,by simp⟩ ?_
 rintro k ⟨hk,ha⟩
 refine qW 1 [(0,.imm (l.map AVal.str)),(1,.str s),(7,nI l.length),(8,nI k),(9,.bool (decide (((k:Nat):Int)<((l.length:Nat):Int))))] [] ?_ ?_
 refine qSeq ?_ ?_
 by_cases hb1:((k:Nat):Int)<((l.length:Nat):Int)
 refine qt (decide_eq_true hb1) ?_ ?_
 refine qK ?_ ?_
 refine qz [(0,.imm (l.map AVal.str)),(1,.str s),(7,nI l.length),(8,nI k)] ?_ ?_
 refine qSeq ?_ ?_
 refine qB 1 ?_ ?_ ?_
 refine qU 2 [(0,.imm (l.map AVal.str)),(1,.str s),(5,nI k),(7,nI l.length),(8,nI k)] ?_ ?_
 refine qV 3 ?_ ?_
 refine qy (o_ixmap (k:=.i64) (l:=l) (enc:=AVal.str) (i:=((k:Nat):Int)) [] kq ty22 ty9 (fun _=>rfl) oq oq) ?_ ?_ ?_
 refine qR 2 [(0,.imm (l.map AVal.str)),(1,.str s),(5,nI k),(7,nI l.length),(8,nI k),(16,.bool (s==(l.getD k [])))] [] ?_ ?_
 by_cases hb2:s=(l.getD k [])
 refine qt (beq_iff_eq.2 hb2) ?_ ?_
 refine qV 2 ?_ ?_
 refine qT ?_ ?_
 apply iR
 apply aR
 apply aR
 apply iR
 apply aR
 refine leafI (n:=((k:Nat):Int)) (.inr rfl) kq ?_
 rotate_left
 iterate 3 kernel_rfl
 refine qf (beq_eq_false_iff_ne.2 hb2) ?_ ?_
 refine qk ?_ ?_
 refine AIn_normal ?_
 refine AThen_normal ?_
 refine qz [(0,.imm (l.map AVal.str)),(1,.str s),(7,nI l.length),(8,nI k)] ?_ ?_
 refine qo ?_ ?_
 refine qy (o_add (a:=((k:Nat):Int)) (b:=1) kq oq oq) ?_ ?_ ?_
 refine qr 1 ?_ ?_
 refine qe ?_ ?_
 refine AThen_normal ⟨k+1,?_,?_,⟨⟨kq,kq,kq,kq,trivial⟩,by simp [BelL,AVal.bel],by simp,kq,by simp⟩⟩
 · omega
 · refine ⟨by omega,fun i hi=>?_⟩
   rcases Nat.lt_succ_iff_lt_or_eq.1 hi with h|h
   · exact ha i h
   · subst h;assumption
 iterate 19 kernel_rfl
 refine qf (decide_eq_false hb1) ?_ ?_
 refine wExit 0 kq kq ?_
 refine AThen_exit ?_
 refine AThen_exit ?_
 refine AIn_exit ?_
 refine AThen_normal ?_
 refine qz [] ?_ ?_
 refine qV 1 ?_ ?_
 refine qT ?_ ?_
 refine leafI (n:=(-1)) (.inr rfl) kq ?_
 rotate_left
 iterate 15 kernel_rfl
 all_goals
  first|exact idxS_some oq ha aq|exact idxS_none (fun i hi=>ha i oq)
noncomputable def c96:Code:=bodyOf Tryz.f96
theorem slContains_spec (l:List (List UInt8)) (s:List UInt8) (hn:l.length<1000000000):CallsP cx 96 [.imm (l.map AVal.str),.str s] (.bool (l.contains s)):=by
 refine func_intro (cx:=cx) 9 0 [(ResultVar.tmp 4)] Tryz.func96 rfl rfl rfl rfl rfl zq ?_
 show wpA cx 9 0 (at_ c96 []) _ _ _
 refine qZ [(0,.imm (l.map AVal.str)),(1,.str s)] [] ?_ ?_
 refine qU 1 [(0,.imm (l.map AVal.str)),(1,.str s)] ?_ ?_
 refine qV 2 ?_ ?_
 refine vcallP (args:=[.imm (l.map AVal.str),.str s]) kq kq kq kq (slIndex_spec l s oq) (by simp [Ty.v]) (by simp [Ty.v]) (by simp [Ty.v]) ?_
 refine qX 2 ?_ ?_
 refine leafB (b:=(decide ((idxS l s) ≥ 0))) (.inr rfl) kq ?_
 · exact idxS_contains l s
 iterate 4 kernel_rfl
theorem upN_eq (s:List UInt8):upN s=(!(([[73,110,116],[84,101,120,116],[66,111,111,108]]:List (List UInt8)).contains s) && fitsW 3 s):=by
  simp only [upN,List.contains_cons,List.contains_nil,Bool.or_false,Bool.not_or]
  rw [Bool.and_comm _ (fitsW 3 s)]
  simp only [Bool.and_assoc]
theorem nmAt_true {l:List (List UInt8)} {k:Nat} (h1:fitsW 2 (l.getD k [])=true) (h2:k=0∨sLess (l.getD (k - 1) []) (l.getD k [])=true):nmAt l k=true:=by
  rw [nmAt,h1];rcases h2 with rfl|h2
  · rfl
  · rw [h2];simp
theorem nmAt_low {l:List (List UInt8)} {k:Nat} (h1:¬ fitsW 2 (l.getD k [])=true):nmAt l k=false:=by rw [nmAt,Bool.eq_false_iff.2 h1];rfl
theorem nmAt_ord {l:List (List UInt8)} {k:Nat} (h1:0<k) (h2:sLess (l.getD (k - 1) []) (l.getD k [])=false):nmAt l k=false:=by
  rw [nmAt,h2];have:(k==0)=false:=by simp;omega
  rw [this];simp
theorem sle_iff (a b:List UInt8):(sLess a b || a==b)=!(sLess b a):=by
  cases h:sLess b a with
  | true =>
    have h1:sLess a b=false:=by
      cases h2:sLess a b with
      | false=>rfl
      | true=>have:=sLess_trans a b a h2 h;rw [sLess_irrefl] at this;cases this
    have h2:(a==b)=false:=by
      rw [beq_eq_false_iff_ne];rintro rfl;rw [sLess_irrefl] at h;cases h
    rw [h1,h2];rfl
  | false =>
    rcases sLess_total b a h with rfl|h1
    · simp
    · rw [h1];rfl
theorem pred_nat (k:Nat):(((k:Nat):Int) - 1).toNat=k - 1:=by omega
theorem fmd_0 {t:Ty} (h:t.kind=0∨t.kind=1∨t.kind=2):fmd t=decide (t.name=[]∧t.n=0∧t.names.length=0∧t.kids.length=0):=by rw [fmd,if_pos h]
theorem fmd_3 {t:Ty} (h:t.kind=3):fmd t=decide (t.n=0∧t.names.length=0∧t.kids.length=0∧upN t.name=true):=by rw [fmd,if_neg oq,if_pos h]
theorem fmd_4 {t:Ty} (h:t.kind=4):fmd t=decide (t.name=[]∧t.n=0∧t.names.length=0∧t.kids.length=1):=by rw [fmd,if_neg oq,if_neg oq,if_pos h]
theorem fmd_6 {t:Ty} (h:t.kind=6):fmd t=decide (t.name=[]∧1≤t.n∧t.names.length=0∧t.kids.length=0):=by rw [fmd,if_neg oq,if_neg oq,if_neg oq,if_pos h]
theorem fmd_5 {t:Ty} (h:t.kind=5):fmd t=decide (nmOk t.names=true∧t.name=[]∧0≤t.n∧t.names.length=t.kids.length):=by rw [fmd,if_neg oq,if_neg oq,if_neg oq,if_neg oq,if_pos h]
theorem fmd_x {t:Ty} (h:t.kind<0∨6<t.kind):fmd t=false:=by rw [fmd,if_neg oq,if_neg oq,if_neg oq,if_neg oq,if_neg oq]
theorem upN_t {s:List UInt8} (h1:¬ ([[73,110,116],[84,101,120,116],[66,111,111,108]]:List (List UInt8)).contains s=true) (h2:fitsW 3 s=true):upN s=true:=by rw [upN_eq,Bool.eq_false_iff.2 h1,h2];rfl
theorem upN_f1 {s:List UInt8} (h1:([[73,110,116],[84,101,120,116],[66,111,111,108]]:List (List UInt8)).contains s=true):¬ upN s=true:=by rw [upN_eq,h1];simp
theorem upN_f2 {s:List UInt8} (h2:¬ fitsW 3 s=true):¬ upN s=true:=by rw [upN_eq,Bool.eq_false_iff.2 h2];simp
theorem nm_end {l:List (List UInt8)} {k:Nat} (ha:∀ i,i<k→nmAt l i=true) (hk:l.length≤k):nmOk l=true:=nmOk_true fun i hi=>ha i oq
theorem nm_low {l:List (List UInt8)} (k:Nat) (hk:k<l.length) (h:¬ fitsW 2 (l.getD k [])=true):¬ nmOk l=true:=Bool.eq_false_iff.1 (nmOk_false hk (nmAt_low h))
theorem nm_ord1 {l:List (List UInt8)} (k:Nat) (hk:k<l.length) (h0:0<k) (h:(sLess (l.getD k []) (l.getD (((k:Nat):Int) - 1).toNat []) || l.getD k []==l.getD (((k:Nat):Int) - 1).toNat [])=true):¬ nmOk l=true:=by
  rw [pred_nat,sle_iff] at h
  exact Bool.eq_false_iff.1 (nmOk_false hk (nmAt_ord h0 (by simpa using h)))
theorem nm_ord2 {l:List (List UInt8)} (k:Nat) (hk:k<l.length) (h0:0<k) (h:¬ sLess (l.getD (((k:Nat):Int) - 1).toNat []) (l.getD k [])=true):¬ nmOk l=true:=by
  rw [pred_nat] at h
  exact Bool.eq_false_iff.1 (nmOk_false hk (nmAt_ord h0 (Bool.eq_false_iff.2 h)))
noncomputable def c56:Code:=bodyOf Tryz.f56
theorem tformed_spec (t:Ty) (hs:t.sz<100000000):CallsP cx 56 [Ty.v t] (.bool (fmd t)):=by
 have hz1:=sz_names t
 have hz2:=sz_kids t
 have hz3:=sz_name t
 refine func_intro (cx:=cx) 139 0 [(ResultVar.tmp 2)] Tryz.func56 rfl rfl rfl rfl rfl zq ?_
 show wpA cx 139 0 (at_ c56 []) _ _ _
 refine qZ [(0,Ty.v t)] [] ?_ ?_
 refine qW 2 [(1,.ptr 0 0)] [t.bx] ?_ ?_
 refine qV 4 ?_ ?_
 by_cases hb1:t.name=[]
 refine qm [8,9] (beq_iff_eq.2 hb1) ?_ ?_
 refine qR 5 [(1,.ptr 0 0),(3,.bool ((t.n)==0))] [t.bx] ?_ ?_
 refine qSeq ?_ ?_
 refine qU 2 [(1,.ptr 0 0),(3,.bool ((t.n)==0)),(15,.int .i64 (t.kind))] ?_ ?_
 refine qB 0 ?_ ?_ ?_
 refine qSeq ?_ ?_
 refine qU 2 [(1,.ptr 0 0),(3,.bool ((t.n)==0)),(15,.int .i64 (t.kind)),(16,.bool ((t.kind)==0))] ?_ ?_
 by_cases hb2:(t.kind)=0
 refine qt (beq_iff_eq.2 hb2) ?_ ?_
 refine qK ?_ ?_
 refine qz [(1,.ptr 0 0),(3,.bool ((t.n)==0)),(15,.int .i64 (t.kind)),(16,.bool ((t.kind)==0))] ?_ ?_
 refine qt (beq_iff_eq.2 hb2) ?_ ?_
 refine qV 2 ?_ ?_
 by_cases hb4:(t.n)=0
 refine qm [3,20,21] (beq_iff_eq.2 hb4) ?_ ?_
 refine qr 2 ?_ ?_
 refine qy (o_lenmap (l:=t.names) (enc:=AVal.str) kq ty22) ?_ ?_ ?_
 refine qr 2 ?_ ?_
 refine qy (o_lenmap (l:=t.kids) (enc:=Ty.enc) kq ty23) ?_ ?_ ?_
 refine qy (o_add (a:=((t.names.length:Nat):Int)) (b:=((t.kids.length:Nat):Int)) kq oq oq) ?_ ?_ ?_
 refine qX 3 ?_ ?_
 apply iR
 apply aR
 refine leafB (b:=((((t.names.length+t.kids.length):Nat):Int)==0)) (.inr rfl) kq ?_
 by_cases hb5:(((t.names.length+t.kids.length):Nat):Int)=0
 refine Eq.trans (beq_iff_eq.2 hb5) ?_
 rotate_left
 refine Eq.trans (beq_eq_false_iff_ne.2 hb5) ?_
 rotate_left
 iterate 10 kernel_rfl
 refine qm [3,20,21] (beq_eq_false_iff_ne.2 hb4) ?_ ?_
 refine qX 10 ?_ ?_
 apply iR
 apply aR
 refine leafB (b:=false) (.inr rfl) kq ?_
 rotate_left
 iterate 7 kernel_rfl
 refine qf (beq_eq_false_iff_ne.2 hb2) ?_ ?_
 refine qU 2 [(1,.ptr 0 0),(3,.bool ((t.n)==0)),(15,.int .i64 (t.kind)),(16,.bool ((t.kind)==1))] ?_ ?_
 by_cases hb6:(t.kind)=1
 refine qt (beq_iff_eq.2 hb6) ?_ ?_
 refine qK ?_ ?_
 refine qz [(1,.ptr 0 0),(3,.bool ((t.n)==0)),(15,.int .i64 (t.kind)),(16,.bool ((t.kind)==1))] ?_ ?_
 refine qt (beq_iff_eq.2 hb6) ?_ ?_
 refine qV 2 ?_ ?_
 by_cases hb8:(t.n)=0
 refine qm [3,20,21] (beq_iff_eq.2 hb8) ?_ ?_
 refine qr 2 ?_ ?_
 refine qy (o_lenmap (l:=t.names) (enc:=AVal.str) kq ty22) ?_ ?_ ?_
 refine qr 2 ?_ ?_
 refine qy (o_lenmap (l:=t.kids) (enc:=Ty.enc) kq ty23) ?_ ?_ ?_
 refine qy (o_add (a:=((t.names.length:Nat):Int)) (b:=((t.kids.length:Nat):Int)) kq oq oq) ?_ ?_ ?_
 refine qX 3 ?_ ?_
 apply iR
 apply aR
 refine leafB (b:=((((t.names.length+t.kids.length):Nat):Int)==0)) (.inr rfl) kq ?_
 by_cases hb9:(((t.names.length+t.kids.length):Nat):Int)=0
 refine Eq.trans (beq_iff_eq.2 hb9) ?_
 rotate_left
 refine Eq.trans (beq_eq_false_iff_ne.2 hb9) ?_
 rotate_left
 iterate 10 kernel_rfl
 refine qm [3,20,21] (beq_eq_false_iff_ne.2 hb8) ?_ ?_
 refine qX 10 ?_ ?_
 apply iR
 apply aR
 refine leafB (b:=false) (.inr rfl) kq ?_
 rotate_left
 iterate 7 kernel_rfl
 refine qf (beq_eq_false_iff_ne.2 hb6) ?_ ?_
 refine qo ?_ ?_
 refine qR 2 [(1,.ptr 0 0),(3,.bool ((t.n)==0)),(15,.int .i64 (t.kind)),(16,.bool ((t.kind)==2))] [t.bx] ?_ ?_
 by_cases hb10:(t.kind)=2
 refine qt (beq_iff_eq.2 hb10) ?_ ?_
 refine qV 2 ?_ ?_
 by_cases hb11:(t.n)=0
 refine qm [3,20,21] (beq_iff_eq.2 hb11) ?_ ?_
 refine qr 2 ?_ ?_
 refine qy (o_lenmap (l:=t.names) (enc:=AVal.str) kq ty22) ?_ ?_ ?_
 refine qr 2 ?_ ?_
 refine qy (o_lenmap (l:=t.kids) (enc:=Ty.enc) kq ty23) ?_ ?_ ?_
 refine qy (o_add (a:=((t.names.length:Nat):Int)) (b:=((t.kids.length:Nat):Int)) kq oq oq) ?_ ?_ ?_
 refine qX 3 ?_ ?_
 apply iR
 apply aR
 refine leafB (b:=((((t.names.length+t.kids.length):Nat):Int)==0)) (.inr rfl) kq ?_
 by_cases hb12:(((t.names.length+t.kids.length):Nat):Int)=0
 refine Eq.trans (beq_iff_eq.2 hb12) ?_
 rotate_left
 refine Eq.trans (beq_eq_false_iff_ne.2 hb12) ?_
 rotate_left
 iterate 10 kernel_rfl
 refine qm [3,20,21] (beq_eq_false_iff_ne.2 hb11) ?_ ?_
 refine qX 10 ?_ ?_
 apply iR
 apply aR
 refine leafB (b:=false) (.inr rfl) kq ?_
 rotate_left
 iterate 4 kernel_rfl
 refine qf (beq_eq_false_iff_ne.2 hb10) ?_ ?_
 refine qU 2 [(1,.ptr 0 0),(3,.bool ((t.n)==0)),(15,.int .i64 (t.kind)),(31,.bool ((t.kind)==3))] ?_ ?_
 by_cases hb13:(t.kind)=3
 refine qt (beq_iff_eq.2 hb13) ?_ ?_
 refine qV 4 ?_ ?_
 by_cases hb14:(t.n)=0
 refine qm [3,35,36] (beq_iff_eq.2 hb14) ?_ ?_
 refine qr 2 ?_ ?_
 refine qy (o_lenmap (l:=t.names) (enc:=AVal.str) kq ty22) ?_ ?_ ?_
 refine qr 2 ?_ ?_
 refine qy (o_lenmap (l:=t.kids) (enc:=Ty.enc) kq ty23) ?_ ?_ ?_
 refine qy (o_add (a:=((t.names.length:Nat):Int)) (b:=((t.kids.length:Nat):Int)) kq oq oq) ?_ ?_ ?_
 refine qr 3 ?_ ?_
 by_cases hb15:(((t.names.length+t.kids.length):Nat):Int)=0
 refine qm [44,45,46] (beq_iff_eq.2 hb15) ?_ ?_
 refine qr 3 ?_ ?_
 refine qc [.full [.str [73,110,116],.str [84,101,120,116],.str [66,111,111,108]],.str t.name] (slContains_spec [[73,110,116],[84,101,120,116],[66,111,111,108]] t.name (by simp)) ?_ ?_
 refine qr 3 ?_ ?_
 by_cases hb16:([[73,110,116],[84,101,120,116],[66,111,111,108]].contains t.name)=true
 refine qm [51,52,53] (x:=(!([[73,110,116],[84,101,120,116],[66,111,111,108]].contains t.name))) (congrArg not (hb16)) ?_ ?_
 refine qX 6 ?_ ?_
 apply iR
 apply aR
 refine leafB (b:=false) (.inr rfl) kq ?_
 rotate_left
 iterate 2 kernel_rfl
 refine qm [51,52,53] (x:=(!([[73,110,116],[84,101,120,116],[66,111,111,108]].contains t.name))) (congrArg not (Bool.eq_false_iff.2 hb16)) ?_ ?_
 refine qr 3 ?_ ?_
 refine qc [.agg [.int .i64 3,.str t.name,.int .i64 0]] (fits3_spec t.name oq) ?_ ?_
 refine qX 2 ?_ ?_
 apply iR
 apply aR
 refine leafB (b:=(fitsW 3 t.name)) (.inr rfl) kq ?_
 by_cases hb17:(fitsW 3 t.name)=true
 refine Eq.trans (hb17) ?_
 rotate_left
 refine Eq.trans (Bool.eq_false_iff.2 hb17) ?_
 rotate_left
 iterate 8 kernel_rfl
 refine qm [44,45,46] (beq_eq_false_iff_ne.2 hb15) ?_ ?_
 refine qX 13 ?_ ?_
 apply iR
 apply aR
 refine leafB (b:=false) (.inr rfl) kq ?_
 rotate_left
 iterate 12 kernel_rfl
 refine qm [3,35,36] (beq_eq_false_iff_ne.2 hb14) ?_ ?_
 refine qX 23 ?_ ?_
 apply iR
 apply aR
 refine leafB (b:=false) (.inr rfl) kq ?_
 rotate_left
 iterate 4 kernel_rfl
 refine qf (beq_eq_false_iff_ne.2 hb13) ?_ ?_
 refine qU 2 [(1,.ptr 0 0),(3,.bool ((t.n)==0)),(15,.int .i64 (t.kind)),(59,.bool ((t.kind)==4))] ?_ ?_
 by_cases hb18:(t.kind)=4
 refine qt (beq_iff_eq.2 hb18) ?_ ?_
 refine qV 2 ?_ ?_
 by_cases hb19:(t.n)=0
 refine qm [3,61,62] (beq_iff_eq.2 hb19) ?_ ?_
 refine qr 2 ?_ ?_
 refine qy (o_lenmap (l:=t.names) (enc:=AVal.str) kq ty22) ?_ ?_ ?_
 refine qr 3 ?_ ?_
 by_cases hb20:((t.names.length:Nat):Int)=0
 refine qm [66,67,68] (beq_iff_eq.2 hb20) ?_ ?_
 refine qr 2 ?_ ?_
 refine qy (o_lenmap (l:=t.kids) (enc:=Ty.enc) kq ty23) ?_ ?_ ?_
 refine qX 3 ?_ ?_
 apply iR
 apply aR
 refine leafB (b:=(((t.kids.length:Nat):Int)==1)) (.inr rfl) kq ?_
 by_cases hb21:((t.kids.length:Nat):Int)=1
 refine Eq.trans (beq_iff_eq.2 hb21) ?_
 rotate_left
 refine Eq.trans (beq_eq_false_iff_ne.2 hb21) ?_
 rotate_left
 iterate 5 kernel_rfl
 refine qm [66,67,68] (beq_eq_false_iff_ne.2 hb20) ?_ ?_
 refine qX 6 ?_ ?_
 apply iR
 apply aR
 refine leafB (b:=false) (.inr rfl) kq ?_
 rotate_left
 iterate 7 kernel_rfl
 refine qm [3,61,62] (beq_eq_false_iff_ne.2 hb19) ?_ ?_
 refine qX 12 ?_ ?_
 apply iR
 apply aR
 refine leafB (b:=false) (.inr rfl) kq ?_
 rotate_left
 iterate 4 kernel_rfl
 refine qf (beq_eq_false_iff_ne.2 hb18) ?_ ?_
 refine qU 2 [(1,.ptr 0 0),(15,.int .i64 (t.kind)),(74,.bool ((t.kind)==6))] ?_ ?_
 by_cases hb22:(t.kind)=6
 refine qt (beq_iff_eq.2 hb22) ?_ ?_
 refine qV 4 ?_ ?_
 refine qm [78,79] (beq_iff_eq.2 hb1) ?_ ?_
 refine qr 5 ?_ ?_
 by_cases hb24:(t.n) ≥ 1
 refine qm [82,83,84] (decide_eq_true hb24) ?_ ?_
 refine qr 2 ?_ ?_
 refine qy (o_lenmap (l:=t.names) (enc:=AVal.str) kq ty22) ?_ ?_ ?_
 refine qr 2 ?_ ?_
 refine qy (o_lenmap (l:=t.kids) (enc:=Ty.enc) kq ty23) ?_ ?_ ?_
 refine qy (o_add (a:=((t.names.length:Nat):Int)) (b:=((t.kids.length:Nat):Int)) kq oq oq) ?_ ?_ ?_
 refine qX 3 ?_ ?_
 apply iR
 apply aR
 refine leafB (b:=((((t.names.length+t.kids.length):Nat):Int)==0)) (.inr rfl) kq ?_
 by_cases hb25:(((t.names.length+t.kids.length):Nat):Int)=0
 refine Eq.trans (beq_iff_eq.2 hb25) ?_
 rotate_left
 refine Eq.trans (beq_eq_false_iff_ne.2 hb25) ?_
 rotate_left
 iterate 10 kernel_rfl
 refine qm [82,83,84] (decide_eq_false hb24) ?_ ?_
 refine qX 10 ?_ ?_
 apply iR
 apply aR
 refine leafB (b:=false) (.inr rfl) kq ?_
 rotate_left
 iterate 6 kernel_rfl
 refine qf (beq_eq_false_iff_ne.2 hb22) ?_ ?_
 refine qU 2 [(1,.ptr 0 0),(94,.bool ((t.kind)==5))] ?_ ?_
 by_cases hb26:(t.kind)=5
 refine qt (beq_iff_eq.2 hb26) ?_ ?_
 refine qSeq ?_ ?_
 refine qV 2 ?_ ?_
 refine qy (o_lenmap (l:=t.names) (enc:=AVal.str) kq ty22) ?_ ?_ ?_
 refine qR 1 [(1,.ptr 0 0),(97,.imm (t.names.map AVal.str)),(98,nI t.names.length),(99,.int .i64 0)] [t.bx] ?_ ?_
 refine qB 1 ?_ ?_ ?_
 refine wLoop (σ:=Nat) (fun k=>[(1,.ptr 0 0),(97,.imm (t.names.map AVal.str)),(98,.int .i64 ((t.names.length:Nat):Int)),(99,.int .i64 ((k:Nat):Int))]) (fun k=>[t.bx]) (fun k=>k≤t.names.length∧∀ i,i<k→nmAt t.names i=true) (fun k=>t.names.length - k) 0 kq zq ⟨⟨kq,kq,kq,kq,trivial⟩,by simp [BelL,AVal.bel],by simp,kq,by simp [AObj.belO]⟩ ?_
 rintro k ⟨hk,ha⟩
 refine qW 1 [(1,.ptr 0 0),(97,.imm (t.names.map AVal.str)),(98,nI t.names.length),(99,nI k),(100,.bool (decide (((k:Nat):Int)<((t.names.length:Nat):Int))))] [t.bx] ?_ ?_
 refine qSeq ?_ ?_
 by_cases hb27:((k:Nat):Int)<((t.names.length:Nat):Int)
 refine qt (decide_eq_true hb27) ?_ ?_
 refine qK ?_ ?_
 refine qz [(1,.ptr 0 0),(97,.imm (t.names.map AVal.str)),(98,nI t.names.length),(99,nI k)] ?_ ?_
 refine qSeq ?_ ?_
 refine qB 2 ?_ ?_ ?_
 refine qV 1 ?_ ?_
 refine qy (o_ixmap (k:=.i64) (l:=t.names) (enc:=AVal.str) (i:=((k:Nat):Int)) [] kq ty22 ty9 (fun _=>rfl) oq oq) ?_ ?_ ?_
 refine qR 3 [(1,.ptr 0 0),(4,nI k),(5,.str (t.names.getD k [])),(97,.imm (t.names.map AVal.str)),(98,nI t.names.length),(99,nI k)] [t.bx] ?_ ?_
 refine qV 1 ?_ ?_
 refine qc [.str (t.names.getD k [])] (tlower_spec (t.names.getD k []) (by have:=sz_names_at t k;omega)) ?_ ?_
 refine qr 2 ?_ ?_
 by_cases hb28:(fitsW 2 (t.names.getD k []))=true
 refine qm [106,107] (x:=(!(fitsW 2 (t.names.getD k [])))) (congrArg not (hb28)) ?_ ?_
 refine qr 3 ?_ ?_
 by_cases hb29:((k:Nat):Int) > 0
 refine qm [109,110] (decide_eq_true hb29) ?_ ?_
 refine qr 4 ?_ ?_
 refine qy (o_sub (a:=((k:Nat):Int)) (b:=1) kq oq oq) ?_ ?_ ?_
 refine qy (o_ixmap (k:=.i64) (l:=t.names) (enc:=AVal.str) (i:=(((k:Nat):Int) - 1)) [] kq ty22 ty9 (fun _=>rfl) oq oq) ?_ ?_ ?_
 refine qR 4 [(1,.ptr 0 0),(97,.imm (t.names.map AVal.str)),(98,nI t.names.length),(99,nI k),(108,nI k),(109,.bool true),(110,.bool true),(111,.str (t.names.getD k [])),(112,.ptr 0 3),(113,.imm (t.names.map AVal.str)),(114,nI k),(115,.int .i64 (((k:Nat):Int) - 1)),(116,.pimm [.str (t.names.getD (((((k:Nat):Int) - 1)).toNat) [])] 0),(117,.str (t.names.getD (((((k:Nat):Int) - 1)).toNat) [])),(118,.bool (sLess (t.names.getD k []) (t.names.getD (((((k:Nat):Int) - 1)).toNat) []) || (t.names.getD k [])==(t.names.getD (((((k:Nat):Int) - 1)).toNat) []))),(119,.bool (sLess (t.names.getD k []) (t.names.getD (((((k:Nat):Int) - 1)).toNat) []) || (t.names.getD k [])==(t.names.getD (((((k:Nat):Int) - 1)).toNat) []))),(120,.bool (sLess (t.names.getD k []) (t.names.getD (((((k:Nat):Int) - 1)).toNat) []) || (t.names.getD k [])==(t.names.getD (((((k:Nat):Int) - 1)).toNat) [])))] [t.bx] ?_ ?_
 by_cases hb30:(sLess (t.names.getD k []) (t.names.getD (((((k:Nat):Int) - 1)).toNat) []) || (t.names.getD k [])==(t.names.getD (((((k:Nat):Int) - 1)).toNat) []))=true
 refine qt (hb30) ?_ ?_
 refine qV 1 ?_ ?_
 refine qT ?_ ?_
 apply iR
 apply aR
 apply aR
 apply iR
 apply aR
 apply iR
 apply aR
 refine leafB (b:=false) (.inr rfl) kq ?_
 rotate_left
 iterate 3 kernel_rfl
 refine qf (Bool.eq_false_iff.2 hb30) ?_ ?_
 refine qk ?_ ?_
 refine AIn_normal ?_
 refine AThen_normal ?_
 refine qz [(1,.ptr 0 0),(97,.imm (t.names.map AVal.str)),(98,nI t.names.length),(99,nI k),(108,nI k),(109,.bool true),(110,.bool true),(111,.str (t.names.getD k [])),(112,.ptr 0 3),(113,.imm (t.names.map AVal.str)),(114,nI k),(115,.int .i64 (((k:Nat):Int) - 1)),(116,.pimm [.str (t.names.getD (((((k:Nat):Int) - 1)).toNat) [])] 0),(117,.str (t.names.getD (((((k:Nat):Int) - 1)).toNat) [])),(118,.bool (sLess (t.names.getD k []) (t.names.getD (((((k:Nat):Int) - 1)).toNat) []) || (t.names.getD k [])==(t.names.getD (((((k:Nat):Int) - 1)).toNat) []))),(119,.bool (sLess (t.names.getD k []) (t.names.getD (((((k:Nat):Int) - 1)).toNat) []) || (t.names.getD k [])==(t.names.getD (((((k:Nat):Int) - 1)).toNat) [])))] ?_ ?_
 refine qo ?_ ?_
 refine qy (o_add (a:=((k:Nat):Int)) (b:=1) kq oq oq) ?_ ?_ ?_
 refine qr 1 ?_ ?_
 refine qe ?_ ?_
 refine AThen_normal ⟨k+1,?_,?_,⟨⟨kq,kq,kq,kq,trivial⟩,by simp [BelL,AVal.bel],by simp,kq,by simp [AObj.belO]⟩⟩
 · omega
 · refine ⟨by omega,fun i hi=>?_⟩
   rcases Nat.lt_succ_iff_lt_or_eq.1 hi with h|h
   · exact ha i h
   · subst h;refine nmAt_true aq ?_;first|(left;omega)|(right;simp_all [pred_nat,sle_iff];done)
 iterate 15 kernel_rfl
 refine qm [109,110] (decide_eq_false hb29) ?_ ?_
 refine qR 10 [(1,.ptr 0 0),(97,.imm (t.names.map AVal.str)),(98,nI t.names.length),(99,nI k),(108,nI k),(109,.bool false),(110,.bool false),(111,.tup []),(112,.tup []),(113,.tup []),(114,.tup []),(115,.tup []),(116,.tup []),(117,.tup []),(118,.tup []),(119,.bool false),(120,.bool false)] [t.bx] ?_ ?_
 refine wIfF kq kq ?_
 refine qk ?_ ?_
 refine AIn_normal ?_
 refine AThen_normal ?_
 refine qz [(1,.ptr 0 0),(97,.imm (t.names.map AVal.str)),(98,nI t.names.length),(99,nI k),(108,nI k),(109,.bool false),(110,.bool false),(111,.tup []),(112,.tup []),(113,.tup []),(114,.tup []),(115,.tup []),(116,.tup []),(117,.tup []),(118,.tup []),(119,.bool false)] ?_ ?_
 refine qo ?_ ?_
 refine qy (o_add (a:=((k:Nat):Int)) (b:=1) kq oq oq) ?_ ?_ ?_
 refine qr 1 ?_ ?_
 refine qe ?_ ?_
 refine AThen_normal ⟨k+1,?_,?_,⟨⟨kq,kq,kq,kq,trivial⟩,by simp [BelL,AVal.bel],by simp,kq,by simp [AObj.belO]⟩⟩
 · omega
 · refine ⟨by omega,fun i hi=>?_⟩
   rcases Nat.lt_succ_iff_lt_or_eq.1 hi with h|h
   · exact ha i h
   · subst h;refine nmAt_true aq ?_;first|(left;omega)|(right;simp_all [pred_nat,sle_iff];done)
 iterate 11 kernel_rfl
 refine qm [106,107] (x:=(!(fitsW 2 (t.names.getD k [])))) (congrArg not (Bool.eq_false_iff.2 hb28)) ?_ ?_
 refine qR 13 [(1,.ptr 0 0),(97,.imm (t.names.map AVal.str)),(98,nI t.names.length),(99,nI k),(108,.tup []),(109,.tup []),(110,.tup []),(111,.tup []),(112,.tup []),(113,.tup []),(114,.tup []),(115,.tup []),(116,.tup []),(117,.tup []),(118,.tup []),(119,.tup []),(120,.bool true)] [t.bx] ?_ ?_
 refine wIfT kq kq ?_
 refine qV 1 ?_ ?_
 refine qT ?_ ?_
 apply iR
 apply aR
 apply aR
 apply iR
 apply aR
 apply iR
 apply aR
 refine leafB (b:=false) (.inr rfl) kq ?_
 rotate_left
 iterate 17 kernel_rfl
 refine qf (decide_eq_false hb27) ?_ ?_
 refine wExit 1 kq kq ?_
 refine AThen_exit ?_
 refine AThen_exit ?_
 refine AIn_exit ?_
 refine AThen_normal ?_
 refine qz [(1,.ptr 0 0)] ?_ ?_
 refine qV 4 ?_ ?_
 refine qm [124,125] (beq_iff_eq.2 hb1) ?_ ?_
 refine qr 5 ?_ ?_
 by_cases hb32:(t.n) ≥ 0
 refine qm [128,129,130] (decide_eq_true hb32) ?_ ?_
 refine qr 2 ?_ ?_
 refine qy (o_lenmap (l:=t.names) (enc:=AVal.str) kq ty22) ?_ ?_ ?_
 refine qr 2 ?_ ?_
 refine qy (o_lenmap (l:=t.kids) (enc:=Ty.enc) kq ty23) ?_ ?_ ?_
 refine qX 3 ?_ ?_
 apply iR
 apply aR
 refine leafB (b:=(((t.names.length:Nat):Int)==((t.kids.length:Nat):Int))) (.inr rfl) kq ?_
 by_cases hb33:((t.names.length:Nat):Int)=((t.kids.length:Nat):Int)
 refine Eq.trans (beq_iff_eq.2 hb33) ?_
 rotate_left
 refine Eq.trans (beq_eq_false_iff_ne.2 hb33) ?_
 rotate_left
 iterate 8 kernel_rfl
 refine qm [128,129,130] (decide_eq_false hb32) ?_ ?_
 refine qX 9 ?_ ?_
 apply iR
 apply aR
 refine leafB (b:=false) (.inr rfl) kq ?_
 rotate_left
 iterate 17 kernel_rfl
 refine qf (beq_eq_false_iff_ne.2 hb26) ?_ ?_
 refine qk ?_ ?_
 refine AIn_normal ?_
 refine AThen_normal ?_
 refine qz [] ?_ ?_
 refine qV 1 ?_ ?_
 refine qT ?_ ?_
 refine leafB (b:=false) (.inr rfl) kq ?_
 rotate_left
 iterate 26 kernel_rfl
 refine qm [8,9] (beq_eq_false_iff_ne.2 hb1) ?_ ?_
 refine qR 5 [(1,.ptr 0 0),(3,.bool false)] [t.bx] ?_ ?_
 refine qSeq ?_ ?_
 refine qU 2 [(1,.ptr 0 0),(3,.bool false),(15,.int .i64 (t.kind))] ?_ ?_
 refine qB 0 ?_ ?_ ?_
 refine qSeq ?_ ?_
 refine qU 2 [(1,.ptr 0 0),(3,.bool false),(15,.int .i64 (t.kind)),(16,.bool ((t.kind)==0))] ?_ ?_
 by_cases hb34:(t.kind)=0
 refine qt (beq_iff_eq.2 hb34) ?_ ?_
 refine qK ?_ ?_
 refine qz [(1,.ptr 0 0),(3,.bool false),(15,.int .i64 (t.kind)),(16,.bool ((t.kind)==0))] ?_ ?_
 refine qt (beq_iff_eq.2 hb34) ?_ ?_
 refine qV 12 ?_ ?_
 refine qT ?_ ?_
 apply iR
 apply aR
 refine leafB (b:=false) (.inr rfl) kq ?_
 rotate_left
 iterate 6 kernel_rfl
 refine qf (beq_eq_false_iff_ne.2 hb34) ?_ ?_
 refine qU 2 [(1,.ptr 0 0),(3,.bool false),(15,.int .i64 (t.kind)),(16,.bool ((t.kind)==1))] ?_ ?_
 by_cases hb36:(t.kind)=1
 refine qt (beq_iff_eq.2 hb36) ?_ ?_
 refine qK ?_ ?_
 refine qz [(1,.ptr 0 0),(3,.bool false),(15,.int .i64 (t.kind)),(16,.bool ((t.kind)==1))] ?_ ?_
 refine qt (beq_iff_eq.2 hb36) ?_ ?_
 refine qV 12 ?_ ?_
 refine qT ?_ ?_
 apply iR
 apply aR
 refine leafB (b:=false) (.inr rfl) kq ?_
 rotate_left
 iterate 6 kernel_rfl
 refine qf (beq_eq_false_iff_ne.2 hb36) ?_ ?_
 refine qo ?_ ?_
 refine qR 2 [(1,.ptr 0 0),(3,.bool false),(15,.int .i64 (t.kind)),(16,.bool ((t.kind)==2))] [t.bx] ?_ ?_
 by_cases hb38:(t.kind)=2
 refine qt (beq_iff_eq.2 hb38) ?_ ?_
 refine qV 12 ?_ ?_
 refine qT ?_ ?_
 apply iR
 apply aR
 refine leafB (b:=false) (.inr rfl) kq ?_
 rotate_left
 iterate 3 kernel_rfl
 refine qf (beq_eq_false_iff_ne.2 hb38) ?_ ?_
 refine qU 2 [(1,.ptr 0 0),(3,.bool false),(15,.int .i64 (t.kind)),(31,.bool ((t.kind)==3))] ?_ ?_
 by_cases hb39:(t.kind)=3
 refine qt (beq_iff_eq.2 hb39) ?_ ?_
 refine qV 4 ?_ ?_
 by_cases hb40:(t.n)=0
 refine qm [35,36] (beq_iff_eq.2 hb40) ?_ ?_
 refine qr 2 ?_ ?_
 refine qy (o_lenmap (l:=t.names) (enc:=AVal.str) kq ty22) ?_ ?_ ?_
 refine qr 2 ?_ ?_
 refine qy (o_lenmap (l:=t.kids) (enc:=Ty.enc) kq ty23) ?_ ?_ ?_
 refine qy (o_add (a:=((t.names.length:Nat):Int)) (b:=((t.kids.length:Nat):Int)) kq oq oq) ?_ ?_ ?_
 refine qr 3 ?_ ?_
 by_cases hb41:(((t.names.length+t.kids.length):Nat):Int)=0
 refine qm [44,45,46] (beq_iff_eq.2 hb41) ?_ ?_
 refine qr 3 ?_ ?_
 refine qc [.full [.str [73,110,116],.str [84,101,120,116],.str [66,111,111,108]],.str t.name] (slContains_spec [[73,110,116],[84,101,120,116],[66,111,111,108]] t.name (by simp)) ?_ ?_
 refine qr 3 ?_ ?_
 by_cases hb42:([[73,110,116],[84,101,120,116],[66,111,111,108]].contains t.name)=true
 refine qm [51,52,53] (x:=(!([[73,110,116],[84,101,120,116],[66,111,111,108]].contains t.name))) (congrArg not (hb42)) ?_ ?_
 refine qX 6 ?_ ?_
 apply iR
 apply aR
 refine leafB (b:=false) (.inr rfl) kq ?_
 rotate_left
 iterate 2 kernel_rfl
 refine qm [51,52,53] (x:=(!([[73,110,116],[84,101,120,116],[66,111,111,108]].contains t.name))) (congrArg not (Bool.eq_false_iff.2 hb42)) ?_ ?_
 refine qr 3 ?_ ?_
 refine qc [.agg [.int .i64 3,.str t.name,.int .i64 0]] (fits3_spec t.name oq) ?_ ?_
 refine qX 2 ?_ ?_
 apply iR
 apply aR
 refine leafB (b:=(fitsW 3 t.name)) (.inr rfl) kq ?_
 by_cases hb43:(fitsW 3 t.name)=true
 refine Eq.trans (hb43) ?_
 rotate_left
 refine Eq.trans (Bool.eq_false_iff.2 hb43) ?_
 rotate_left
 iterate 8 kernel_rfl
 refine qm [44,45,46] (beq_eq_false_iff_ne.2 hb41) ?_ ?_
 refine qX 13 ?_ ?_
 apply iR
 apply aR
 refine leafB (b:=false) (.inr rfl) kq ?_
 rotate_left
 iterate 12 kernel_rfl
 refine qm [35,36] (beq_eq_false_iff_ne.2 hb40) ?_ ?_
 refine qX 23 ?_ ?_
 apply iR
 apply aR
 refine leafB (b:=false) (.inr rfl) kq ?_
 rotate_left
 iterate 4 kernel_rfl
 refine qf (beq_eq_false_iff_ne.2 hb39) ?_ ?_
 refine qU 2 [(1,.ptr 0 0),(3,.bool false),(15,.int .i64 (t.kind)),(59,.bool ((t.kind)==4))] ?_ ?_
 by_cases hb44:(t.kind)=4
 refine qt (beq_iff_eq.2 hb44) ?_ ?_
 refine qV 14 ?_ ?_
 refine qT ?_ ?_
 apply iR
 apply aR
 refine leafB (b:=false) (.inr rfl) kq ?_
 rotate_left
 iterate 3 kernel_rfl
 refine qf (beq_eq_false_iff_ne.2 hb44) ?_ ?_
 refine qU 2 [(1,.ptr 0 0),(15,.int .i64 (t.kind)),(74,.bool ((t.kind)==6))] ?_ ?_
 by_cases hb45:(t.kind)=6
 refine qt (beq_iff_eq.2 hb45) ?_ ?_
 refine qV 4 ?_ ?_
 refine qm [78,79] (beq_eq_false_iff_ne.2 hb1) ?_ ?_
 refine qX 15 ?_ ?_
 apply iR
 apply aR
 refine leafB (b:=false) (.inr rfl) kq ?_
 rotate_left
 iterate 4 kernel_rfl
 refine qf (beq_eq_false_iff_ne.2 hb45) ?_ ?_
 refine qU 2 [(1,.ptr 0 0),(94,.bool ((t.kind)==5))] ?_ ?_
 by_cases hb47:(t.kind)=5
 refine qt (beq_iff_eq.2 hb47) ?_ ?_
 refine qSeq ?_ ?_
 refine qV 2 ?_ ?_
 refine qy (o_lenmap (l:=t.names) (enc:=AVal.str) kq ty22) ?_ ?_ ?_
 refine qR 1 [(1,.ptr 0 0),(97,.imm (t.names.map AVal.str)),(98,nI t.names.length),(99,.int .i64 0)] [t.bx] ?_ ?_
 refine qB 1 ?_ ?_ ?_
 refine wLoop (σ:=Nat) (fun k=>[(1,.ptr 0 0),(97,.imm (t.names.map AVal.str)),(98,.int .i64 ((t.names.length:Nat):Int)),(99,.int .i64 ((k:Nat):Int))]) (fun k=>[t.bx]) (fun k=>k≤t.names.length∧∀ i,i<k→nmAt t.names i=true) (fun k=>t.names.length - k) 0 kq zq ⟨⟨kq,kq,kq,kq,trivial⟩,by simp [BelL,AVal.bel],by simp,kq,by simp [AObj.belO]⟩ ?_
 rintro k ⟨hk,ha⟩
 refine qW 1 [(1,.ptr 0 0),(97,.imm (t.names.map AVal.str)),(98,nI t.names.length),(99,nI k),(100,.bool (decide (((k:Nat):Int)<((t.names.length:Nat):Int))))] [t.bx] ?_ ?_
 refine qSeq ?_ ?_
 by_cases hb48:((k:Nat):Int)<((t.names.length:Nat):Int)
 refine qt (decide_eq_true hb48) ?_ ?_
 refine qK ?_ ?_
 refine qz [(1,.ptr 0 0),(97,.imm (t.names.map AVal.str)),(98,nI t.names.length),(99,nI k)] ?_ ?_
 refine qSeq ?_ ?_
 refine qB 2 ?_ ?_ ?_
 refine qV 1 ?_ ?_
 refine qy (o_ixmap (k:=.i64) (l:=t.names) (enc:=AVal.str) (i:=((k:Nat):Int)) [] kq ty22 ty9 (fun _=>rfl) oq oq) ?_ ?_ ?_
 refine qR 3 [(1,.ptr 0 0),(4,nI k),(5,.str (t.names.getD k [])),(97,.imm (t.names.map AVal.str)),(98,nI t.names.length),(99,nI k)] [t.bx] ?_ ?_
 refine qV 1 ?_ ?_
 refine qc [.str (t.names.getD k [])] (tlower_spec (t.names.getD k []) (by have:=sz_names_at t k;omega)) ?_ ?_
 refine qr 2 ?_ ?_
 by_cases hb49:(fitsW 2 (t.names.getD k []))=true
 refine qm [106,107] (x:=(!(fitsW 2 (t.names.getD k [])))) (congrArg not (hb49)) ?_ ?_
 refine qr 3 ?_ ?_
 by_cases hb50:((k:Nat):Int) > 0
 refine qm [109,110] (decide_eq_true hb50) ?_ ?_
 refine qr 4 ?_ ?_
 refine qy (o_sub (a:=((k:Nat):Int)) (b:=1) kq oq oq) ?_ ?_ ?_
 refine qy (o_ixmap (k:=.i64) (l:=t.names) (enc:=AVal.str) (i:=(((k:Nat):Int) - 1)) [] kq ty22 ty9 (fun _=>rfl) oq oq) ?_ ?_ ?_
 refine qR 4 [(1,.ptr 0 0),(97,.imm (t.names.map AVal.str)),(98,nI t.names.length),(99,nI k),(108,nI k),(109,.bool true),(110,.bool true),(111,.str (t.names.getD k [])),(112,.ptr 0 3),(113,.imm (t.names.map AVal.str)),(114,nI k),(115,.int .i64 (((k:Nat):Int) - 1)),(116,.pimm [.str (t.names.getD (((((k:Nat):Int) - 1)).toNat) [])] 0),(117,.str (t.names.getD (((((k:Nat):Int) - 1)).toNat) [])),(118,.bool (sLess (t.names.getD k []) (t.names.getD (((((k:Nat):Int) - 1)).toNat) []) || (t.names.getD k [])==(t.names.getD (((((k:Nat):Int) - 1)).toNat) []))),(119,.bool (sLess (t.names.getD k []) (t.names.getD (((((k:Nat):Int) - 1)).toNat) []) || (t.names.getD k [])==(t.names.getD (((((k:Nat):Int) - 1)).toNat) []))),(120,.bool (sLess (t.names.getD k []) (t.names.getD (((((k:Nat):Int) - 1)).toNat) []) || (t.names.getD k [])==(t.names.getD (((((k:Nat):Int) - 1)).toNat) [])))] [t.bx] ?_ ?_
 by_cases hb51:(sLess (t.names.getD k []) (t.names.getD (((((k:Nat):Int) - 1)).toNat) []) || (t.names.getD k [])==(t.names.getD (((((k:Nat):Int) - 1)).toNat) []))=true
 refine qt (hb51) ?_ ?_
 refine qV 1 ?_ ?_
 refine qT ?_ ?_
 apply iR
 apply aR
 apply aR
 apply iR
 apply aR
 apply iR
 apply aR
 refine leafB (b:=false) (.inr rfl) kq ?_
 rotate_left
 iterate 3 kernel_rfl
 refine qf (Bool.eq_false_iff.2 hb51) ?_ ?_
 refine qk ?_ ?_
 refine AIn_normal ?_
 refine AThen_normal ?_
 refine qz [(1,.ptr 0 0),(97,.imm (t.names.map AVal.str)),(98,nI t.names.length),(99,nI k),(108,nI k),(109,.bool true),(110,.bool true),(111,.str (t.names.getD k [])),(112,.ptr 0 3),(113,.imm (t.names.map AVal.str)),(114,nI k),(115,.int .i64 (((k:Nat):Int) - 1)),(116,.pimm [.str (t.names.getD (((((k:Nat):Int) - 1)).toNat) [])] 0),(117,.str (t.names.getD (((((k:Nat):Int) - 1)).toNat) [])),(118,.bool (sLess (t.names.getD k []) (t.names.getD (((((k:Nat):Int) - 1)).toNat) []) || (t.names.getD k [])==(t.names.getD (((((k:Nat):Int) - 1)).toNat) []))),(119,.bool (sLess (t.names.getD k []) (t.names.getD (((((k:Nat):Int) - 1)).toNat) []) || (t.names.getD k [])==(t.names.getD (((((k:Nat):Int) - 1)).toNat) [])))] ?_ ?_
 refine qo ?_ ?_
 refine qy (o_add (a:=((k:Nat):Int)) (b:=1) kq oq oq) ?_ ?_ ?_
 refine qr 1 ?_ ?_
 refine qe ?_ ?_
 refine AThen_normal ⟨k+1,?_,?_,⟨⟨kq,kq,kq,kq,trivial⟩,by simp [BelL,AVal.bel],by simp,kq,by simp [AObj.belO]⟩⟩
 · omega
 · refine ⟨by omega,fun i hi=>?_⟩
   rcases Nat.lt_succ_iff_lt_or_eq.1 hi with h|h
   · exact ha i h
   · subst h;refine nmAt_true aq ?_;first|(left;omega)|(right;simp_all [pred_nat,sle_iff];done)
 iterate 15 kernel_rfl
 refine qm [109,110] (decide_eq_false hb50) ?_ ?_
 refine qR 10 [(1,.ptr 0 0),(97,.imm (t.names.map AVal.str)),(98,nI t.names.length),(99,nI k),(108,nI k),(109,.bool false),(110,.bool false),(111,.tup []),(112,.tup []),(113,.tup []),(114,.tup []),(115,.tup []),(116,.tup []),(117,.tup []),(118,.tup []),(119,.bool false),(120,.bool false)] [t.bx] ?_ ?_
 refine wIfF kq kq ?_
 refine qk ?_ ?_
 refine AIn_normal ?_
 refine AThen_normal ?_
 refine qz [(1,.ptr 0 0),(97,.imm (t.names.map AVal.str)),(98,nI t.names.length),(99,nI k),(108,nI k),(109,.bool false),(110,.bool false),(111,.tup []),(112,.tup []),(113,.tup []),(114,.tup []),(115,.tup []),(116,.tup []),(117,.tup []),(118,.tup []),(119,.bool false)] ?_ ?_
 refine qo ?_ ?_
 refine qy (o_add (a:=((k:Nat):Int)) (b:=1) kq oq oq) ?_ ?_ ?_
 refine qr 1 ?_ ?_
 refine qe ?_ ?_
 refine AThen_normal ⟨k+1,?_,?_,⟨⟨kq,kq,kq,kq,trivial⟩,by simp [BelL,AVal.bel],by simp,kq,by simp [AObj.belO]⟩⟩
 · omega
 · refine ⟨by omega,fun i hi=>?_⟩
   rcases Nat.lt_succ_iff_lt_or_eq.1 hi with h|h
   · exact ha i h
   · subst h;refine nmAt_true aq ?_;first|(left;omega)|(right;simp_all [pred_nat,sle_iff];done)
 iterate 11 kernel_rfl
 refine qm [106,107] (x:=(!(fitsW 2 (t.names.getD k [])))) (congrArg not (Bool.eq_false_iff.2 hb49)) ?_ ?_
 refine qR 13 [(1,.ptr 0 0),(97,.imm (t.names.map AVal.str)),(98,nI t.names.length),(99,nI k),(108,.tup []),(109,.tup []),(110,.tup []),(111,.tup []),(112,.tup []),(113,.tup []),(114,.tup []),(115,.tup []),(116,.tup []),(117,.tup []),(118,.tup []),(119,.tup []),(120,.bool true)] [t.bx] ?_ ?_
 refine wIfT kq kq ?_
 refine qV 1 ?_ ?_
 refine qT ?_ ?_
 apply iR
 apply aR
 apply aR
 apply iR
 apply aR
 apply iR
 apply aR
 refine leafB (b:=false) (.inr rfl) kq ?_
 rotate_left
 iterate 17 kernel_rfl
 refine qf (decide_eq_false hb48) ?_ ?_
 refine wExit 1 kq kq ?_
 refine AThen_exit ?_
 refine AThen_exit ?_
 refine AIn_exit ?_
 refine AThen_normal ?_
 refine qz [(1,.ptr 0 0)] ?_ ?_
 refine qV 4 ?_ ?_
 refine qm [124,125] (beq_eq_false_iff_ne.2 hb1) ?_ ?_
 refine qX 14 ?_ ?_
 apply iR
 apply aR
 refine leafB (b:=false) (.inr rfl) kq ?_
 rotate_left
 iterate 15 kernel_rfl
 refine qf (beq_eq_false_iff_ne.2 hb47) ?_ ?_
 refine qk ?_ ?_
 refine AIn_normal ?_
 refine AThen_normal ?_
 refine qz [] ?_ ?_
 refine qV 1 ?_ ?_
 refine qT ?_ ?_
 refine leafB (b:=false) (.inr rfl) kq ?_
 rotate_left
 iterate 29 kernel_rfl
 all_goals
  first|rw [fmd_x oq]|(first|rw [fmd_0 oq]|rw [fmd_3 oq]|rw [fmd_4 oq]|rw [fmd_6 oq]|rw [fmd_5 oq])
  all_goals symm
  all_goals (first|(refine decide_eq_true ⟨?_,?_,?_,?_⟩ <;> (first|assumption|omega|exact upN_t aq aq|exact nm_end ha oq))|(refine decide_eq_false ?_;rintro ⟨q1,q2,q3,q4⟩;(first|contradiction|omega|exact upN_f1 aq aq|exact upN_f2 aq aq|exact nm_low (l:=t.names) k oq aq aq|exact nm_ord1 (l:=t.names) k oq oq aq aq|exact nm_ord2 (l:=t.names) k oq oq aq aq)))
end Go.Proofs.YtdikgijfekfaoaaGreatDoor
namespace Go.Proofs.YtdikgijfekfaoaaGreatDoor
open Go.Proofs.YtdikgijfekfaoaaGreatDoor.Abs
set_option maxRecDepth 20000
set_option maxHeartbeats 4000000
def encS (l:List (List UInt8)):AVal:=.imm (l.map .str)
@[simp] theorem encM_pl (k:Nat) (l:List (Int×Bool)):((encM (AVal.int .i64) AVal.bool l).all fun e=>e.1.bel k && e.2.bel k)=true:=by
  simp [encM,List.all_eq_true]
@[simp] theorem encM_rw (k:Nat) (l:List (Int×List (List UInt8))):((encM (AVal.int .i64) encS l).all fun e=>e.1.bel k && e.2.bel k)=true:=by
  simp [encM,encS,List.all_eq_true]
structure VSt where
  ok:Bool
  pl:List (Int×Bool)
  rw:List (Int×List (List UInt8))
def rwOk (w:Option (List (List UInt8))) (l:List (List UInt8)):Bool:=match w with
  | none=>true
  | some w=>w==l
def stepV (s:VSt) (x:Ty):VSt :=
  if x.kind=6 then ⟨s.ok && fmd x,mset x.n true s.pl,s.rw⟩
  else if x.kind=5∧x.n≠0 then ⟨s.ok && fmd x && rwOk (mget x.n s.rw) x.names,s.pl,mset x.n x.names s.rw⟩
  else ⟨s.ok && fmd x,s.pl,s.rw⟩
def hpV (u:Ty) (s:VSt):AHeap:=[.box [.int .i64 u.kind,.str u.name,.int .i64 u.n,.imm (u.names.map .str),.imm (u.kids.map Ty.enc)],.box [.bool s.ok],.map (encM (AVal.int .i64) AVal.bool s.pl),.box [.map 2],.map (encM (AVal.int .i64) encS s.rw),.box [.map 4]]
def VSt.sm (s:VSt):Prop:=∀ k l,mget k s.rw=some l→l.length<100000000
noncomputable def c55:Code:=bodyOf Tryz.f55
theorem valid1_raw (t u:Ty) (ok:Bool) (pl:List (Int×Bool)) (rw:List (Int×List (List UInt8))) (hs:t.sz<100000000) (hrw:VSt.sm ⟨ok,pl,rw⟩):CallsA cx 55 [Ty.v t,.ptr 1 0,.ptr 3 0,.ptr 5 0] [u.bx,.box [.bool (ok)],.map (encM (AVal.int .i64) AVal.bool pl),.box [.map 2],.map (encM (AVal.int .i64) encS rw),.box [.map 4]] (fun v h=>v=(.tup [])∧h=hpV u (stepV ⟨ok,pl,rw⟩ t)):=by
 refine func_intro (cx:=cx) 49 6 [] Tryz.func55 rfl rfl rfl rfl rfl zq ?_
 show wpA cx 49 6 (at_ c55 []) _ _ _
 refine qZ [(0,Ty.v t),(1,.ptr 1 0),(2,.ptr 3 0),(3,.ptr 5 0)] [u.bx,.box [.bool (ok)],.map (encM (AVal.int .i64) AVal.bool pl),.box [.map 2],.map (encM (AVal.int .i64) encS rw),.box [.map 4]] ?_ ?_
 refine qW 1 [(1,.ptr 1 0),(2,.ptr 3 0),(3,.ptr 5 0),(4,.ptr 6 0)] [u.bx,.box [.bool (ok)],.map (encM (AVal.int .i64) AVal.bool pl),.box [.map 2],.map (encM (AVal.int .i64) encS rw),.box [.map 4],t.bx] ?_ ?_
 refine qV 2 ?_ ?_
 by_cases hb1:(ok)=true
 refine qm [7,8] (hb1) ?_ ?_
 refine qr 1 ?_ ?_
 refine vcallP (args:=[.agg [.int .i64 (t.kind),.str t.name,.int .i64 (t.n),.imm (t.names.map AVal.str),.imm (t.kids.map Ty.enc)]]) kq kq kq kq (tformed_spec t oq) (by simp [Ty.v]) (by simp [Ty.v]) (by simp [Ty.v]) ?_
 refine qR 2 [(1,.ptr 1 0),(2,.ptr 3 0),(3,.ptr 5 0),(4,.ptr 6 0)] [u.bx,.box [.bool (fmd t)],.map (encM (AVal.int .i64) AVal.bool pl),.box [.map 2],.map (encM (AVal.int .i64) encS rw),.box [.map 4],t.bx] ?_ ?_
 refine qU 3 [(1,.ptr 1 0),(2,.ptr 3 0),(3,.ptr 5 0),(4,.ptr 6 0),(14,.bool ((t.kind)==6))] ?_ ?_
 by_cases hb2:(t.kind)=6
 refine qt (beq_iff_eq.2 hb2) ?_ ?_
 refine qo ?_ ?_
 refine qr 3 ?_ ?_
 refine qY (o_mset (o:=2) (ek:=(AVal.int .i64)) (ev:=AVal.bool) (l:=pl) (k:=(t.n)) (x:=true) keyI kq ty71 ty3 rfl kq kq) ?_ ?_ ?_
 refine qe ?_ ?_
 refine leafA (l:=[]) (.inl rfl) kq (by simp [awrap]) (by simp [awrap]) (by simp [awrap]) ?_ ?_
 refine Eq.trans (b:=[u.bx,.box [.bool (fmd t)],.map (encM (AVal.int .i64) AVal.bool (mset (t.n) true pl)),.box [.map 2],.map (encM (AVal.int .i64) encS rw),.box [.map 4]]) kq ?_
 · simp [hpV,stepV,rwOk, *]
 rotate_left
 iterate 6 kernel_rfl
 refine qf (beq_eq_false_iff_ne.2 hb2) ?_ ?_
 refine qV 4 ?_ ?_
 by_cases hb3:(t.kind)=5
 refine qm [20,21] (beq_iff_eq.2 hb3) ?_ ?_
 refine qR 4 [(1,.ptr 1 0),(3,.ptr 5 0),(4,.ptr 6 0),(25,.bool ((t.n) != 0))] [u.bx,.box [.bool (fmd t)],.map (encM (AVal.int .i64) AVal.bool pl),.box [.map 2],.map (encM (AVal.int .i64) encS rw),.box [.map 4],t.bx] ?_ ?_
 by_cases hb4:(t.n)=0
 refine qf (x:=((t.n) != 0)) (bne_eq_false_iff_eq.2 hb4) ?_ ?_
 refine qk ?_ ?_
 refine leafA (l:=[]) (.inl rfl) kq (by simp [awrap]) (by simp [awrap]) (by simp [awrap]) ?_ ?_
 refine Eq.trans (b:=[u.bx,.box [.bool (fmd t)],.map (encM (AVal.int .i64) AVal.bool pl),.box [.map 2],.map (encM (AVal.int .i64) encS rw),.box [.map 4]]) kq ?_
 · simp [hpV,stepV,rwOk, *]
 rotate_left
 iterate 2 kernel_rfl
 refine qt (x:=((t.n) != 0)) (bne_iff_ne.2 hb4) ?_ ?_
 refine qV 3 ?_ ?_
 rcases hm5:mget (t.n) rw with _|x5
 refine qy (o_lookN (ok:=true) (o:=4) (ek:=(AVal.int .i64)) (ev:=encS) (l:=rw) (k:=(t.n)) keyI hm5 kq ty72 ty3 rfl ty22 kq) ?_ ?_ ?_
 refine qR 5 [(1,.ptr 1 0),(3,.ptr 5 0),(4,.ptr 6 0),(5,.full []),(6,.bool false)] [u.bx,.box [.bool (fmd t)],.map (encM (AVal.int .i64) AVal.bool pl),.box [.map 2],.map (encM (AVal.int .i64) encS rw),.box [.map 4],t.bx] ?_ ?_
 refine qV 2 ?_ ?_
 by_cases hb6:(fmd t)=true
 refine qm [33,34] (hb6) ?_ ?_
 refine qR 10 [(3,.ptr 5 0),(4,.ptr 6 0)] [u.bx,.box [.bool true],.map (encM (AVal.int .i64) AVal.bool pl),.box [.map 2],.map (encM (AVal.int .i64) encS rw),.box [.map 4],t.bx] ?_ ?_
 refine qo ?_ ?_
 refine qr 5 ?_ ?_
 refine qY (o_mset (o:=4) (ek:=(AVal.int .i64)) (ev:=encS) (l:=rw) (k:=(t.n)) (x:=t.names) keyI kq ty72 ty3 rfl kq kq) ?_ ?_ ?_
 refine qe ?_ ?_
 refine leafA (l:=[]) (.inl rfl) kq (by simp [awrap]) (by simp [awrap]) (by simp [awrap]) ?_ ?_
 refine Eq.trans (b:=[u.bx,.box [.bool true],.map (encM (AVal.int .i64) AVal.bool pl),.box [.map 2],.map (encM (AVal.int .i64) encS (mset (t.n) t.names rw)),.box [.map 4]]) kq ?_
 · simp [hpV,stepV,rwOk, *]
 rotate_left
 iterate 7 kernel_rfl
 refine qm [33,34] (Bool.eq_false_iff.2 hb6) ?_ ?_
 refine qR 10 [(3,.ptr 5 0),(4,.ptr 6 0)] [u.bx,.box [.bool false],.map (encM (AVal.int .i64) AVal.bool pl),.box [.map 2],.map (encM (AVal.int .i64) encS rw),.box [.map 4],t.bx] ?_ ?_
 refine qo ?_ ?_
 refine qr 5 ?_ ?_
 refine qY (o_mset (o:=4) (ek:=(AVal.int .i64)) (ev:=encS) (l:=rw) (k:=(t.n)) (x:=t.names) keyI kq ty72 ty3 rfl kq kq) ?_ ?_ ?_
 refine qe ?_ ?_
 refine leafA (l:=[]) (.inl rfl) kq (by simp [awrap]) (by simp [awrap]) (by simp [awrap]) ?_ ?_
 refine Eq.trans (b:=[u.bx,.box [.bool false],.map (encM (AVal.int .i64) AVal.bool pl),.box [.map 2],.map (encM (AVal.int .i64) encS (mset (t.n) t.names rw)),.box [.map 4]]) kq ?_
 · simp [hpV,stepV,rwOk, *]
 rotate_left
 iterate 11 kernel_rfl
 refine qy (o_lookS (ok:=true) (o:=4) (ek:=(AVal.int .i64)) (ev:=encS) (l:=rw) (k:=(t.n)) (x:=x5) keyI hm5 kq ty72 ty3 rfl ty22 kq) ?_ ?_ ?_
 refine qR 5 [(1,.ptr 1 0),(3,.ptr 5 0),(4,.ptr 6 0),(5,.imm (x5.map AVal.str)),(6,.bool true)] [u.bx,.box [.bool (fmd t)],.map (encM (AVal.int .i64) AVal.bool pl),.box [.map 2],.map (encM (AVal.int .i64) encS rw),.box [.map 4],t.bx] ?_ ?_
 refine qV 2 ?_ ?_
 by_cases hb7:(fmd t)=true
 refine qm [33,34] (hb7) ?_ ?_
 refine qr 6 ?_ ?_
 refine vcallP (args:=[.imm (x5.map AVal.str),.imm (t.names.map AVal.str)]) kq kq kq kq (slEqual_spec x5 t.names (by exact Nat.lt_trans (hrw _ _ aq) dq)) (by simp [Ty.v]) (by simp [Ty.v]) (by simp [Ty.v]) ?_
 refine qR 3 [(3,.ptr 5 0),(4,.ptr 6 0)] [u.bx,.box [.bool (x5==t.names)],.map (encM (AVal.int .i64) AVal.bool pl),.box [.map 2],.map (encM (AVal.int .i64) encS rw),.box [.map 4],t.bx] ?_ ?_
 refine qo ?_ ?_
 refine qr 5 ?_ ?_
 refine qY (o_mset (o:=4) (ek:=(AVal.int .i64)) (ev:=encS) (l:=rw) (k:=(t.n)) (x:=t.names) keyI kq ty72 ty3 rfl kq kq) ?_ ?_ ?_
 refine qe ?_ ?_
 refine leafA (l:=[]) (.inl rfl) kq (by simp [awrap]) (by simp [awrap]) (by simp [awrap]) ?_ ?_
 refine Eq.trans (b:=[u.bx,.box [.bool (x5==t.names)],.map (encM (AVal.int .i64) AVal.bool pl),.box [.map 2],.map (encM (AVal.int .i64) encS (mset (t.n) t.names rw)),.box [.map 4]]) kq ?_
 · simp [hpV,stepV,rwOk, *]
 rotate_left
 iterate 8 kernel_rfl
 refine qm [33,34] (Bool.eq_false_iff.2 hb7) ?_ ?_
 refine qR 10 [(3,.ptr 5 0),(4,.ptr 6 0)] [u.bx,.box [.bool false],.map (encM (AVal.int .i64) AVal.bool pl),.box [.map 2],.map (encM (AVal.int .i64) encS rw),.box [.map 4],t.bx] ?_ ?_
 refine qo ?_ ?_
 refine qr 5 ?_ ?_
 refine qY (o_mset (o:=4) (ek:=(AVal.int .i64)) (ev:=encS) (l:=rw) (k:=(t.n)) (x:=t.names) keyI kq ty72 ty3 rfl kq kq) ?_ ?_ ?_
 refine qe ?_ ?_
 refine leafA (l:=[]) (.inl rfl) kq (by simp [awrap]) (by simp [awrap]) (by simp [awrap]) ?_ ?_
 refine Eq.trans (b:=[u.bx,.box [.bool false],.map (encM (AVal.int .i64) AVal.bool pl),.box [.map 2],.map (encM (AVal.int .i64) encS (mset (t.n) t.names rw)),.box [.map 4]]) kq ?_
 · simp [hpV,stepV,rwOk, *]
 rotate_left
 iterate 15 kernel_rfl
 refine qm [20,21] (beq_eq_false_iff_ne.2 hb3) ?_ ?_
 refine qR 4 [(1,.ptr 1 0),(3,.ptr 5 0),(4,.ptr 6 0),(25,.bool false)] [u.bx,.box [.bool (fmd t)],.map (encM (AVal.int .i64) AVal.bool pl),.box [.map 2],.map (encM (AVal.int .i64) encS rw),.box [.map 4],t.bx] ?_ ?_
 refine wIfF kq kq ?_
 refine qk ?_ ?_
 refine leafA (l:=[]) (.inl rfl) kq (by simp [awrap]) (by simp [awrap]) (by simp [awrap]) ?_ ?_
 refine Eq.trans (b:=[u.bx,.box [.bool (fmd t)],.map (encM (AVal.int .i64) AVal.bool pl),.box [.map 2],.map (encM (AVal.int .i64) encS rw),.box [.map 4]]) kq ?_
 · simp [hpV,stepV,rwOk, *]
 rotate_left
 iterate 9 kernel_rfl
 refine qm [7,8] (Bool.eq_false_iff.2 hb1) ?_ ?_
 refine qR 4 [(1,.ptr 1 0),(2,.ptr 3 0),(3,.ptr 5 0),(4,.ptr 6 0)] [u.bx,.box [.bool false],.map (encM (AVal.int .i64) AVal.bool pl),.box [.map 2],.map (encM (AVal.int .i64) encS rw),.box [.map 4],t.bx] ?_ ?_
 refine qU 3 [(1,.ptr 1 0),(2,.ptr 3 0),(3,.ptr 5 0),(4,.ptr 6 0),(14,.bool ((t.kind)==6))] ?_ ?_
 by_cases hb8:(t.kind)=6
 refine qt (beq_iff_eq.2 hb8) ?_ ?_
 refine qo ?_ ?_
 refine qr 3 ?_ ?_
 refine qY (o_mset (o:=2) (ek:=(AVal.int .i64)) (ev:=AVal.bool) (l:=pl) (k:=(t.n)) (x:=true) keyI kq ty71 ty3 rfl kq kq) ?_ ?_ ?_
 refine qe ?_ ?_
 refine leafA (l:=[]) (.inl rfl) kq (by simp [awrap]) (by simp [awrap]) (by simp [awrap]) ?_ ?_
 refine Eq.trans (b:=[u.bx,.box [.bool false],.map (encM (AVal.int .i64) AVal.bool (mset (t.n) true pl)),.box [.map 2],.map (encM (AVal.int .i64) encS rw),.box [.map 4]]) kq ?_
 · simp [hpV,stepV,rwOk, *]
 rotate_left
 iterate 6 kernel_rfl
 refine qf (beq_eq_false_iff_ne.2 hb8) ?_ ?_
 refine qV 4 ?_ ?_
 by_cases hb9:(t.kind)=5
 refine qm [20,21] (beq_iff_eq.2 hb9) ?_ ?_
 refine qR 4 [(1,.ptr 1 0),(3,.ptr 5 0),(4,.ptr 6 0),(25,.bool ((t.n) != 0))] [u.bx,.box [.bool false],.map (encM (AVal.int .i64) AVal.bool pl),.box [.map 2],.map (encM (AVal.int .i64) encS rw),.box [.map 4],t.bx] ?_ ?_
 by_cases hb10:(t.n)=0
 refine qf (x:=((t.n) != 0)) (bne_eq_false_iff_eq.2 hb10) ?_ ?_
 refine qk ?_ ?_
 refine leafA (l:=[]) (.inl rfl) kq (by simp [awrap]) (by simp [awrap]) (by simp [awrap]) ?_ ?_
 refine Eq.trans (b:=[u.bx,.box [.bool false],.map (encM (AVal.int .i64) AVal.bool pl),.box [.map 2],.map (encM (AVal.int .i64) encS rw),.box [.map 4]]) kq ?_
 · simp [hpV,stepV,rwOk, *]
 rotate_left
 iterate 2 kernel_rfl
 refine qt (x:=((t.n) != 0)) (bne_iff_ne.2 hb10) ?_ ?_
 refine qV 3 ?_ ?_
 rcases hm11:mget (t.n) rw with _|x11
 refine qy (o_lookN (ok:=true) (o:=4) (ek:=(AVal.int .i64)) (ev:=encS) (l:=rw) (k:=(t.n)) keyI hm11 kq ty72 ty3 rfl ty22 kq) ?_ ?_ ?_
 refine qR 5 [(1,.ptr 1 0),(3,.ptr 5 0),(4,.ptr 6 0),(5,.full []),(6,.bool false)] [u.bx,.box [.bool false],.map (encM (AVal.int .i64) AVal.bool pl),.box [.map 2],.map (encM (AVal.int .i64) encS rw),.box [.map 4],t.bx] ?_ ?_
 refine qU 12 [(3,.ptr 5 0),(4,.ptr 6 0)] ?_ ?_
 refine qo ?_ ?_
 refine qr 5 ?_ ?_
 refine qY (o_mset (o:=4) (ek:=(AVal.int .i64)) (ev:=encS) (l:=rw) (k:=(t.n)) (x:=t.names) keyI kq ty72 ty3 rfl kq kq) ?_ ?_ ?_
 refine qe ?_ ?_
 refine leafA (l:=[]) (.inl rfl) kq (by simp [awrap]) (by simp [awrap]) (by simp [awrap]) ?_ ?_
 refine Eq.trans (b:=[u.bx,.box [.bool false],.map (encM (AVal.int .i64) AVal.bool pl),.box [.map 2],.map (encM (AVal.int .i64) encS (mset (t.n) t.names rw)),.box [.map 4]]) kq ?_
 · simp [hpV,stepV,rwOk, *]
 rotate_left
 iterate 9 kernel_rfl
 refine qy (o_lookS (ok:=true) (o:=4) (ek:=(AVal.int .i64)) (ev:=encS) (l:=rw) (k:=(t.n)) (x:=x11) keyI hm11 kq ty72 ty3 rfl ty22 kq) ?_ ?_ ?_
 refine qR 5 [(1,.ptr 1 0),(3,.ptr 5 0),(4,.ptr 6 0),(5,.imm (x11.map AVal.str)),(6,.bool true)] [u.bx,.box [.bool false],.map (encM (AVal.int .i64) AVal.bool pl),.box [.map 2],.map (encM (AVal.int .i64) encS rw),.box [.map 4],t.bx] ?_ ?_
 refine qU 12 [(3,.ptr 5 0),(4,.ptr 6 0)] ?_ ?_
 refine qo ?_ ?_
 refine qr 5 ?_ ?_
 refine qY (o_mset (o:=4) (ek:=(AVal.int .i64)) (ev:=encS) (l:=rw) (k:=(t.n)) (x:=t.names) keyI kq ty72 ty3 rfl kq kq) ?_ ?_ ?_
 refine qe ?_ ?_
 refine leafA (l:=[]) (.inl rfl) kq (by simp [awrap]) (by simp [awrap]) (by simp [awrap]) ?_ ?_
 refine Eq.trans (b:=[u.bx,.box [.bool false],.map (encM (AVal.int .i64) AVal.bool pl),.box [.map 2],.map (encM (AVal.int .i64) encS (mset (t.n) t.names rw)),.box [.map 4]]) kq ?_
 · simp [hpV,stepV,rwOk, *]
 rotate_left
 iterate 13 kernel_rfl
 refine qm [20,21] (beq_eq_false_iff_ne.2 hb9) ?_ ?_
 refine qR 4 [(1,.ptr 1 0),(3,.ptr 5 0),(4,.ptr 6 0),(25,.bool false)] [u.bx,.box [.bool false],.map (encM (AVal.int .i64) AVal.bool pl),.box [.map 2],.map (encM (AVal.int .i64) encS rw),.box [.map 4],t.bx] ?_ ?_
 refine wIfF kq kq ?_
 refine qk ?_ ?_
 refine leafA (l:=[]) (.inl rfl) kq (by simp [awrap]) (by simp [awrap]) (by simp [awrap]) ?_ ?_
 refine Eq.trans (b:=[u.bx,.box [.bool false],.map (encM (AVal.int .i64) AVal.bool pl),.box [.map 2],.map (encM (AVal.int .i64) encS rw),.box [.map 4]]) kq ?_
 · simp [hpV,stepV,rwOk, *]
 rotate_left
 iterate 11 kernel_rfl
 all_goals
  simp [AObj.belO,hpV,Ty.v]
mutual
def visV:VSt→Ty→VSt
  | s,.mk k x n l ks=>if k=5 then stepV (visVL s ks) (.mk k x n l ks) else visVL (stepV s (.mk k x n l ks)) ks
def visVL:VSt→List Ty→VSt
  | s,[]=>s
  | s,t::l=>visVL (visV s t) l
end
theorem visV_rec (s:VSt) (t:Ty) (h:t.kind=5):visV s t=stepV (visVL s t.kids) t:=by cases t;simp only [Ty.kind] at h;simp only [visV,if_pos h,Ty.kids]
theorem visV_oth (s:VSt) (t:Ty) (h:¬ t.kind=5):visV s t=visVL (stepV s t) t.kids:=by cases t;simp only [Ty.kind] at h;simp only [visV,if_neg h,Ty.kids]
theorem visVL_snoc (t:Ty):∀ (l:List Ty) (s:VSt),visVL s (l++[t])=visV (visVL s l) t
  | [],s=>rfl
  | x::l,s=>by simp only [List.cons_append,visVL,visVL_snoc t l]
theorem take_snocT (l:List Ty) (k:Nat) (h:k<l.length):l.take (k+1)=l.take k++[l.getD k Ty.zero]:=by
  rw [List.take_succ_eq_append_getElem h,List.getD_eq_getElem?_getD,List.getElem?_eq_getElem h];rfl
theorem visVL_take (s:VSt) (l:List Ty) (k:Nat) (h:k<l.length):visVL s (l.take (k+1))=visV (visVL s (l.take k)) (l.getD k Ty.zero):=by
  rw [take_snocT l k h,visVL_snoc]
theorem mget_mset {κ α:Type} [DecidableEq κ] (k k':κ) (v:α):∀ l:List (κ×α),mget k (mset k' v l)=if k=k' then some v else mget k l
  | []=>by simp [mset,mget]
  | p::l=>by
    simp only [mset]
    by_cases e:k'=p.1
    · rw [if_pos e];simp only [mget]
      by_cases e2:k=k'
      · rw [if_pos e2,if_pos e2]
      · rw [if_neg e2,if_neg e2,if_neg (by rw [← e];exact e2)]
    · rw [if_neg e];simp only [mget,mget_mset k k' v l]
      by_cases e2:k=p.1
      · rw [if_pos e2,if_pos e2,if_neg (by rintro rfl;exact e e2)]
      · rw [if_neg e2,if_neg e2]
theorem sm_step {s:VSt} (hs:s.sm) {t:Ty} (ht:t.sz<100000000):(stepV s t).sm:=by
  intro k l h
  unfold stepV at h
  split at h
  · exact hs k l h
  · split at h
    · simp only [mget_mset] at h
      split at h
      · cases h;have:=sz_names t;omega
      · exact hs k l h
    · exact hs k l h
mutual
theorem sm_vis:∀ (t:Ty) (s:VSt),s.sm→t.sz<100000000→(visV s t).sm
  | .mk k x n l ks,s,hs,ht=>by
    have hk:Ty.szL ks<100000000:=by simp only [Ty.sz] at ht;omega
    simp only [visV]
    split
    · exact sm_step (sm_visL ks s hs hk) ht
    · exact sm_visL ks _ (sm_step hs ht) hk
theorem sm_visL:∀ (l:List Ty) (s:VSt),s.sm→Ty.szL l<100000000→(visVL s l).sm
  | [],s,hs,_=>hs
  | t::l,s,hs,ht=>by
    simp only [Ty.szL] at ht
    exact sm_visL l _ (sm_vis t s hs oq) oq
end
theorem szL_take:∀ (l:List Ty) (k:Nat),Ty.szL (l.take k)≤Ty.szL l
  | [],k=>by simp
  | t::l,0=>by simp [Ty.szL]
  | t::l,k+1=>by have:=szL_take l k;simp only [List.take_succ_cons,Ty.szL];omega
theorem sm_take (t:Ty) (s:VSt) (k:Nat) (hs:s.sm) (ht:t.sz<100000000):(visVL s (t.kids.take k)).sm:=sm_visL _ _ hs (by have:=szL_take t.kids k;have:=sz_eq t;omega)
theorem valid1_spec (t u:Ty) (s:VSt) (hs:t.sz<100000000) (hm:s.sm):CallsA cx 55 [t.v,.ptr 1 0,.ptr 3 0,.ptr 5 0] (hpV u s) (fun v h=>v=.tup []∧h=hpV u (stepV s t)):=valid1_raw t u s.ok s.pl s.rw hs hm
noncomputable def c54:Code:=bodyOf Tryz.f54
theorem visitV_spec (t u:Ty) (s:VSt) (hs:t.sz<100000000) (hm:s.sm):CallsA cx 54 [Ty.v t,.fn (.func 55) [] [.ptr 1 0,.ptr 3 0,.ptr 5 0]] (hpV u s) (fun v h=>v=(.tup [])∧h=hpV u (visV s t)):=by
 induction hN:t.sz using Nat.strongRecOn generalizing t u s with|_ N ih =>
 have ihV:∀ (t' u:Ty) (s:VSt),t'.sz<t.sz→t'.sz<100000000→s.sm→CallsA cx 54 [t'.v,.fn (.func 55) [] [.ptr 1 0,.ptr 3 0,.ptr 5 0]] (hpV u s) (fun v h=>v=.tup []∧h=hpV u (visV s t')):=fun t' u s h1 h2 h3=>ih _ (by rw [← hN];exact h1) t' u s h2 h3 rfl
 have hz2:=sz_kids t
 refine func_intro (cx:=cx) 29 6 [] Tryz.func54 rfl rfl rfl rfl rfl zq ?_
 show wpA cx 29 6 (at_ c54 []) _ _ _
 refine qZ [(0,Ty.v t),(1,.fn (.func 55) [] [.ptr 1 0,.ptr 3 0,.ptr 5 0])] [u.bx,.box [.bool (s.ok)],.map (encM (AVal.int .i64) AVal.bool s.pl),.box [.map 2],.map (encM (AVal.int .i64) encS s.rw),.box [.map 4]] ?_ ?_
 refine qW 1 [(1,.fn (.func 55) [] [.ptr 1 0,.ptr 3 0,.ptr 5 0]),(2,.ptr 6 0)] [u.bx,.box [.bool (s.ok)],.map (encM (AVal.int .i64) AVal.bool s.pl),.box [.map 2],.map (encM (AVal.int .i64) encS s.rw),.box [.map 4],t.bx] ?_ ?_
 refine qSeq ?_ ?_
 refine qU 3 [(1,.fn (.func 55) [] [.ptr 1 0,.ptr 3 0,.ptr 5 0]),(2,.ptr 6 0),(8,.bool ((t.kind) != 5))] ?_ ?_
 by_cases hb1:(t.kind)=5
 refine qf (x:=((t.kind) != 5)) (bne_eq_false_iff_eq.2 hb1) ?_ ?_
 refine qK ?_ ?_
 refine qz [(1,.fn (.func 55) [] [.ptr 1 0,.ptr 3 0,.ptr 5 0]),(2,.ptr 6 0)] ?_ ?_
 refine qSeq ?_ ?_
 refine qV 2 ?_ ?_
 refine qy (o_lenmap (l:=t.kids) (enc:=Ty.enc) kq ty23) ?_ ?_ ?_
 refine qR 1 [(1,.fn (.func 55) [] [.ptr 1 0,.ptr 3 0,.ptr 5 0]),(2,.ptr 6 0),(13,.imm (t.kids.map Ty.enc)),(14,nI t.kids.length),(15,.int .i64 0)] [u.bx,.box [.bool (s.ok)],.map (encM (AVal.int .i64) AVal.bool s.pl),.box [.map 2],.map (encM (AVal.int .i64) encS s.rw),.box [.map 4],t.bx] ?_ ?_
 refine qB 0 ?_ ?_ ?_
 refine wLoop (σ:=Nat) (fun k=>[(1,.fn (.func 55) [] [.ptr 1 0,.ptr 3 0,.ptr 5 0]),(2,.ptr 6 0),(13,.imm (t.kids.map Ty.enc)),(14,.int .i64 ((t.kids.length:Nat):Int)),(15,.int .i64 ((k:Nat):Int))]) (fun k=>[u.bx,.box [.bool ((visVL s (t.kids.take k)).ok)],.map (encM (AVal.int .i64) AVal.bool (visVL s (t.kids.take k)).pl),.box [.map 2],.map (encM (AVal.int .i64) encS (visVL s (t.kids.take k)).rw),.box [.map 4],t.bx]) (fun k=>k≤t.kids.length) (fun k=>t.kids.length - k) 0 kq (by exact Nat.zero_le _) ⟨⟨kq,kq,kq,kq,kq,trivial⟩,by simp [BelL,AVal.bel],by simp,kq,by simp [AObj.belO]⟩ ?_
 rintro k hk
 refine qW 1 [(1,.fn (.func 55) [] [.ptr 1 0,.ptr 3 0,.ptr 5 0]),(2,.ptr 6 0),(13,.imm (t.kids.map Ty.enc)),(14,nI t.kids.length),(15,nI k),(16,.bool (decide (((k:Nat):Int)<((t.kids.length:Nat):Int))))] [u.bx,.box [.bool ((visVL s (t.kids.take k)).ok)],.map (encM (AVal.int .i64) AVal.bool (visVL s (t.kids.take k)).pl),.box [.map 2],.map (encM (AVal.int .i64) encS (visVL s (t.kids.take k)).rw),.box [.map 4],t.bx] ?_ ?_
 refine qSeq ?_ ?_
 by_cases hb2:((k:Nat):Int)<((t.kids.length:Nat):Int)
 refine qt (decide_eq_true hb2) ?_ ?_
 refine qK ?_ ?_
 refine qz [(1,.fn (.func 55) [] [.ptr 1 0,.ptr 3 0,.ptr 5 0]),(2,.ptr 6 0),(13,.imm (t.kids.map Ty.enc)),(14,nI t.kids.length),(15,nI k)] ?_ ?_
 refine qSeq ?_ ?_
 refine qB 1 ?_ ?_ ?_
 refine qO ?_ ?_
 refine qy ((o_ixmap (k:=.i64) (l:=t.kids) (enc:=Ty.enc) (i:=((k:Nat):Int)) Ty.zero kq ty23 ty25 ty_size oq oq).trans (congrArg (fun cs=>some (AVal.pimm cs 0,_)) (ty_cells (t.kids.getD k Ty.zero)))) ?_ ?_ ?_
 refine qR 3 [(1,.fn (.func 55) [] [.ptr 1 0,.ptr 3 0,.ptr 5 0]),(2,.ptr 6 0),(5,.ptr 7 0),(13,.imm (t.kids.map Ty.enc)),(14,nI t.kids.length),(15,nI k)] [u.bx,.box [.bool ((visVL s (t.kids.take k)).ok)],.map (encM (AVal.int .i64) AVal.bool (visVL s (t.kids.take k)).pl),.box [.map 2],.map (encM (AVal.int .i64) encS (visVL s (t.kids.take k)).rw),.box [.map 4],t.bx,(t.kids.getD k Ty.zero).bx] ?_ ?_
 refine qo ?_ ?_
 refine qr 2 ?_ ?_
 refine vcallA (args:=[.agg [.int .i64 ((t.kids.getD k Ty.zero).kind),.str (t.kids.getD k Ty.zero).name,.int .i64 ((t.kids.getD k Ty.zero).n),.imm ((t.kids.getD k Ty.zero).names.map AVal.str),.imm ((t.kids.getD k Ty.zero).kids.map Ty.enc)],.fn (.func 55) [] [.ptr 1 0,.ptr 3 0,.ptr 5 0]]) (hs:=[u.bx,.box [.bool ((visVL s (t.kids.take k)).ok)],.map (encM (AVal.int .i64) AVal.bool (visVL s (t.kids.take k)).pl),.box [.map 2],.map (encM (AVal.int .i64) encS (visVL s (t.kids.take k)).rw),.box [.map 4]]) (hs':=[u.bx,.box [.bool ((visV (visVL s (t.kids.take k)) (t.kids.getD k Ty.zero)).ok)],.map (encM (AVal.int .i64) AVal.bool (visV (visVL s (t.kids.take k)) (t.kids.getD k Ty.zero)).pl),.box [.map 2],.map (encM (AVal.int .i64) encS (visV (visVL s (t.kids.take k)) (t.kids.getD k Ty.zero)).rw),.box [.map 4]]) (rest:=[t.bx,(t.kids.getD k Ty.zero).bx]) kq kq kq kq kq (ihV (t.kids.getD k Ty.zero) u (visVL s (t.kids.take k)) (sz_kid t k oq) (Nat.lt_trans (sz_kid t k oq) hs) (sm_take t _ _ hm hs)) (by simp [AObj.belO,hpV,Ty.v]) (by simp [AObj.belO,hpV,Ty.v]) rfl (by simp [AObj.belO,hpV,Ty.v]) (by simp [AObj.belO,hpV,Ty.v]) kq ?_
 refine qe ?_ ?_
 refine AIn_normal ?_
 refine AThen_normal ?_
 refine qZ [(1,.fn (.func 55) [] [.ptr 1 0,.ptr 3 0,.ptr 5 0]),(2,.ptr 6 0),(13,.imm (t.kids.map Ty.enc)),(14,nI t.kids.length),(15,nI k)] [u.bx,.box [.bool ((visV (visVL s (t.kids.take k)) (t.kids.getD k Ty.zero)).ok)],.map (encM (AVal.int .i64) AVal.bool (visV (visVL s (t.kids.take k)) (t.kids.getD k Ty.zero)).pl),.box [.map 2],.map (encM (AVal.int .i64) encS (visV (visVL s (t.kids.take k)) (t.kids.getD k Ty.zero)).rw),.box [.map 4],t.bx,(t.kids.getD k Ty.zero).bx] ?_ ?_
 refine qo ?_ ?_
 refine qy (o_add (a:=((k:Nat):Int)) (b:=1) kq oq oq) ?_ ?_ ?_
 refine qr 1 ?_ ?_
 refine qe ?_ ?_
 refine AThen_normal ⟨k+1,?_,?_,⟨⟨kq,kq,kq,kq,kq,trivial⟩,by simp [BelL,AVal.bel],by simp,(Eq.trans (b:=[u.bx,.box [.bool ((visV (visVL s (t.kids.take k)) (t.kids.getD k Ty.zero)).ok)],.map (encM (AVal.int .i64) AVal.bool (visV (visVL s (t.kids.take k)) (t.kids.getD k Ty.zero)).pl),.box [.map 2],.map (encM (AVal.int .i64) encS (visV (visVL s (t.kids.take k)) (t.kids.getD k Ty.zero)).rw),.box [.map 4],t.bx]) kq (by exact congrArg (fun q=>hpV u q++[.box [.int .i64 t.kind,.str t.name,.int .i64 t.n,.imm (t.names.map .str),.imm (t.kids.map Ty.enc)]]) (visVL_take _ t.kids k oq).symm)),by simp [AObj.belO]⟩⟩
 · omega
 · omega
 iterate 19 kernel_rfl
 refine qf (decide_eq_false hb2) ?_ ?_
 refine wExit 0 kq kq ?_
 refine AThen_exit ?_
 refine AThen_exit ?_
 refine AIn_exit ?_
 refine AThen_normal ?_
 refine qz [(1,.fn (.func 55) [] [.ptr 1 0,.ptr 3 0,.ptr 5 0]),(2,.ptr 6 0)] ?_ ?_
 refine qU 3 [(1,.fn (.func 55) [] [.ptr 1 0,.ptr 3 0,.ptr 5 0]),(2,.ptr 6 0),(25,.bool ((t.kind)==5))] ?_ ?_
 refine qt (beq_iff_eq.2 hb1) ?_ ?_
 refine qo ?_ ?_
 refine qr 2 ?_ ?_
 refine vcallA (args:=[.agg [.int .i64 (t.kind),.str t.name,.int .i64 (t.n),.imm (t.names.map AVal.str),.imm (t.kids.map Ty.enc)],.ptr 1 0,.ptr 3 0,.ptr 5 0]) (hs:=[u.bx,.box [.bool ((visVL s (t.kids.take k)).ok)],.map (encM (AVal.int .i64) AVal.bool (visVL s (t.kids.take k)).pl),.box [.map 2],.map (encM (AVal.int .i64) encS (visVL s (t.kids.take k)).rw),.box [.map 4]]) (hs':=[u.bx,.box [.bool ((stepV (visVL s (t.kids.take k)) t).ok)],.map (encM (AVal.int .i64) AVal.bool (stepV (visVL s (t.kids.take k)) t).pl),.box [.map 2],.map (encM (AVal.int .i64) encS (stepV (visVL s (t.kids.take k)) t).rw),.box [.map 4]]) (rest:=[t.bx]) kq kq kq kq kq (valid1_spec t u (visVL s (t.kids.take k)) oq (sm_take t _ _ hm hs)) (by simp [AObj.belO,hpV,Ty.v]) (by simp [AObj.belO,hpV,Ty.v]) rfl (by simp [AObj.belO,hpV,Ty.v]) (by simp [AObj.belO,hpV,Ty.v]) kq ?_
 refine qe ?_ ?_
 refine leafA (l:=[]) (.inl rfl) kq (by simp [awrap]) (by simp [awrap]) (by simp [awrap]) ?_ ?_
 refine Eq.trans (b:=[u.bx,.box [.bool ((stepV (visVL s (t.kids.take k)) t).ok)],.map (encM (AVal.int .i64) AVal.bool (stepV (visVL s (t.kids.take k)) t).pl),.box [.map 2],.map (encM (AVal.int .i64) encS (stepV (visVL s (t.kids.take k)) t).rw),.box [.map 4]]) kq ?_
 rotate_left
 · simp [AObj.belO,hpV,Ty.v]
 iterate 19 kernel_rfl
 refine qt (x:=((t.kind) != 5)) (bne_iff_ne.2 hb1) ?_ ?_
 refine qo ?_ ?_
 refine qr 2 ?_ ?_
 refine vcallA (args:=[.agg [.int .i64 (t.kind),.str t.name,.int .i64 (t.n),.imm (t.names.map AVal.str),.imm (t.kids.map Ty.enc)],.ptr 1 0,.ptr 3 0,.ptr 5 0]) (hs:=[u.bx,.box [.bool (s.ok)],.map (encM (AVal.int .i64) AVal.bool s.pl),.box [.map 2],.map (encM (AVal.int .i64) encS s.rw),.box [.map 4]]) (hs':=[u.bx,.box [.bool ((stepV s t).ok)],.map (encM (AVal.int .i64) AVal.bool (stepV s t).pl),.box [.map 2],.map (encM (AVal.int .i64) encS (stepV s t).rw),.box [.map 4]]) (rest:=[t.bx]) kq kq kq kq kq (valid1_spec t u s oq hm) (by simp [AObj.belO,hpV,Ty.v]) (by simp [AObj.belO,hpV,Ty.v]) rfl (by simp [AObj.belO,hpV,Ty.v]) (by simp [AObj.belO,hpV,Ty.v]) kq ?_
 refine qN [(1,.fn (.func 55) [] [.ptr 1 0,.ptr 3 0,.ptr 5 0]),(2,.ptr 6 0)] [u.bx,.box [.bool ((stepV s t).ok)],.map (encM (AVal.int .i64) AVal.bool (stepV s t).pl),.box [.map 2],.map (encM (AVal.int .i64) encS (stepV s t).rw),.box [.map 4],t.bx] ?_ ?_
 refine qSeq ?_ ?_
 refine qV 2 ?_ ?_
 refine qy (o_lenmap (l:=t.kids) (enc:=Ty.enc) kq ty23) ?_ ?_ ?_
 refine qR 1 [(1,.fn (.func 55) [] [.ptr 1 0,.ptr 3 0,.ptr 5 0]),(2,.ptr 6 0),(13,.imm (t.kids.map Ty.enc)),(14,nI t.kids.length),(15,.int .i64 0)] [u.bx,.box [.bool ((stepV s t).ok)],.map (encM (AVal.int .i64) AVal.bool (stepV s t).pl),.box [.map 2],.map (encM (AVal.int .i64) encS (stepV s t).rw),.box [.map 4],t.bx] ?_ ?_
 refine qB 0 ?_ ?_ ?_
 refine wLoop (σ:=Nat) (fun k=>[(1,.fn (.func 55) [] [.ptr 1 0,.ptr 3 0,.ptr 5 0]),(2,.ptr 6 0),(13,.imm (t.kids.map Ty.enc)),(14,.int .i64 ((t.kids.length:Nat):Int)),(15,.int .i64 ((k:Nat):Int))]) (fun k=>[u.bx,.box [.bool ((visVL (stepV s t) (t.kids.take k)).ok)],.map (encM (AVal.int .i64) AVal.bool (visVL (stepV s t) (t.kids.take k)).pl),.box [.map 2],.map (encM (AVal.int .i64) encS (visVL (stepV s t) (t.kids.take k)).rw),.box [.map 4],t.bx]) (fun k=>k≤t.kids.length) (fun k=>t.kids.length - k) 0 kq (by exact Nat.zero_le _) ⟨⟨kq,kq,kq,kq,kq,trivial⟩,by simp [BelL,AVal.bel],by simp,kq,by simp [AObj.belO]⟩ ?_
 rintro k hk
 refine qW 1 [(1,.fn (.func 55) [] [.ptr 1 0,.ptr 3 0,.ptr 5 0]),(2,.ptr 6 0),(13,.imm (t.kids.map Ty.enc)),(14,nI t.kids.length),(15,nI k),(16,.bool (decide (((k:Nat):Int)<((t.kids.length:Nat):Int))))] [u.bx,.box [.bool ((visVL (stepV s t) (t.kids.take k)).ok)],.map (encM (AVal.int .i64) AVal.bool (visVL (stepV s t) (t.kids.take k)).pl),.box [.map 2],.map (encM (AVal.int .i64) encS (visVL (stepV s t) (t.kids.take k)).rw),.box [.map 4],t.bx] ?_ ?_
 refine qSeq ?_ ?_
 by_cases hb4:((k:Nat):Int)<((t.kids.length:Nat):Int)
 refine qt (decide_eq_true hb4) ?_ ?_
 refine qK ?_ ?_
 refine qz [(1,.fn (.func 55) [] [.ptr 1 0,.ptr 3 0,.ptr 5 0]),(2,.ptr 6 0),(13,.imm (t.kids.map Ty.enc)),(14,nI t.kids.length),(15,nI k)] ?_ ?_
 refine qSeq ?_ ?_
 refine qB 1 ?_ ?_ ?_
 refine qO ?_ ?_
 refine qy ((o_ixmap (k:=.i64) (l:=t.kids) (enc:=Ty.enc) (i:=((k:Nat):Int)) Ty.zero kq ty23 ty25 ty_size oq oq).trans (congrArg (fun cs=>some (AVal.pimm cs 0,_)) (ty_cells (t.kids.getD k Ty.zero)))) ?_ ?_ ?_
 refine qR 3 [(1,.fn (.func 55) [] [.ptr 1 0,.ptr 3 0,.ptr 5 0]),(2,.ptr 6 0),(5,.ptr 7 0),(13,.imm (t.kids.map Ty.enc)),(14,nI t.kids.length),(15,nI k)] [u.bx,.box [.bool ((visVL (stepV s t) (t.kids.take k)).ok)],.map (encM (AVal.int .i64) AVal.bool (visVL (stepV s t) (t.kids.take k)).pl),.box [.map 2],.map (encM (AVal.int .i64) encS (visVL (stepV s t) (t.kids.take k)).rw),.box [.map 4],t.bx,(t.kids.getD k Ty.zero).bx] ?_ ?_
 refine qo ?_ ?_
 refine qr 2 ?_ ?_
 refine vcallA (args:=[.agg [.int .i64 ((t.kids.getD k Ty.zero).kind),.str (t.kids.getD k Ty.zero).name,.int .i64 ((t.kids.getD k Ty.zero).n),.imm ((t.kids.getD k Ty.zero).names.map AVal.str),.imm ((t.kids.getD k Ty.zero).kids.map Ty.enc)],.fn (.func 55) [] [.ptr 1 0,.ptr 3 0,.ptr 5 0]]) (hs:=[u.bx,.box [.bool ((visVL (stepV s t) (t.kids.take k)).ok)],.map (encM (AVal.int .i64) AVal.bool (visVL (stepV s t) (t.kids.take k)).pl),.box [.map 2],.map (encM (AVal.int .i64) encS (visVL (stepV s t) (t.kids.take k)).rw),.box [.map 4]]) (hs':=[u.bx,.box [.bool ((visV (visVL (stepV s t) (t.kids.take k)) (t.kids.getD k Ty.zero)).ok)],.map (encM (AVal.int .i64) AVal.bool (visV (visVL (stepV s t) (t.kids.take k)) (t.kids.getD k Ty.zero)).pl),.box [.map 2],.map (encM (AVal.int .i64) encS (visV (visVL (stepV s t) (t.kids.take k)) (t.kids.getD k Ty.zero)).rw),.box [.map 4]]) (rest:=[t.bx,(t.kids.getD k Ty.zero).bx]) kq kq kq kq kq (ihV (t.kids.getD k Ty.zero) u (visVL (stepV s t) (t.kids.take k)) (sz_kid t k oq) (Nat.lt_trans (sz_kid t k oq) hs) (sm_take t _ _ (sm_step hm hs) hs)) (by simp [AObj.belO,hpV,Ty.v]) (by simp [AObj.belO,hpV,Ty.v]) rfl (by simp [AObj.belO,hpV,Ty.v]) (by simp [AObj.belO,hpV,Ty.v]) kq ?_
 refine qe ?_ ?_
 refine AIn_normal ?_
 refine AThen_normal ?_
 refine qZ [(1,.fn (.func 55) [] [.ptr 1 0,.ptr 3 0,.ptr 5 0]),(2,.ptr 6 0),(13,.imm (t.kids.map Ty.enc)),(14,nI t.kids.length),(15,nI k)] [u.bx,.box [.bool ((visV (visVL (stepV s t) (t.kids.take k)) (t.kids.getD k Ty.zero)).ok)],.map (encM (AVal.int .i64) AVal.bool (visV (visVL (stepV s t) (t.kids.take k)) (t.kids.getD k Ty.zero)).pl),.box [.map 2],.map (encM (AVal.int .i64) encS (visV (visVL (stepV s t) (t.kids.take k)) (t.kids.getD k Ty.zero)).rw),.box [.map 4],t.bx,(t.kids.getD k Ty.zero).bx] ?_ ?_
 refine qo ?_ ?_
 refine qy (o_add (a:=((k:Nat):Int)) (b:=1) kq oq oq) ?_ ?_ ?_
 refine qr 1 ?_ ?_
 refine qe ?_ ?_
 refine AThen_normal ⟨k+1,?_,?_,⟨⟨kq,kq,kq,kq,kq,trivial⟩,by simp [BelL,AVal.bel],by simp,(Eq.trans (b:=[u.bx,.box [.bool ((visV (visVL (stepV s t) (t.kids.take k)) (t.kids.getD k Ty.zero)).ok)],.map (encM (AVal.int .i64) AVal.bool (visV (visVL (stepV s t) (t.kids.take k)) (t.kids.getD k Ty.zero)).pl),.box [.map 2],.map (encM (AVal.int .i64) encS (visV (visVL (stepV s t) (t.kids.take k)) (t.kids.getD k Ty.zero)).rw),.box [.map 4],t.bx]) kq (by exact congrArg (fun q=>hpV u q++[.box [.int .i64 t.kind,.str t.name,.int .i64 t.n,.imm (t.names.map .str),.imm (t.kids.map Ty.enc)]]) (visVL_take _ t.kids k oq).symm)),by simp [AObj.belO]⟩⟩
 · omega
 · omega
 iterate 19 kernel_rfl
 refine qf (decide_eq_false hb4) ?_ ?_
 refine wExit 0 kq kq ?_
 refine AThen_exit ?_
 refine AThen_exit ?_
 refine AIn_exit ?_
 refine AThen_normal ?_
 refine qz [(1,.fn (.func 55) [] [.ptr 1 0,.ptr 3 0,.ptr 5 0]),(2,.ptr 6 0)] ?_ ?_
 refine qU 3 [(1,.fn (.func 55) [] [.ptr 1 0,.ptr 3 0,.ptr 5 0]),(2,.ptr 6 0),(25,.bool ((t.kind)==5))] ?_ ?_
 refine qf (beq_eq_false_iff_ne.2 hb1) ?_ ?_
 refine qk ?_ ?_
 refine leafA (l:=[]) (.inl rfl) kq (by simp [awrap]) (by simp [awrap]) (by simp [awrap]) ?_ ?_
 refine Eq.trans (b:=[u.bx,.box [.bool ((visVL (stepV s t) (t.kids.take k)).ok)],.map (encM (AVal.int .i64) AVal.bool (visVL (stepV s t) (t.kids.take k)).pl),.box [.map 2],.map (encM (AVal.int .i64) encS (visVL (stepV s t) (t.kids.take k)).rw),.box [.map 4]]) kq ?_
 rotate_left
 · simp [AObj.belO,hpV,Ty.v]
 iterate 22 kernel_rfl
 all_goals
  refine congrArg (hpV u) ?_
  first|rw [visV_oth s t aq,List.take_of_length_le oq]|rw [visV_rec s t aq,List.take_of_length_le oq]
end Go.Proofs.YtdikgijfekfaoaaGreatDoor
namespace Go.Proofs.YtdikgijfekfaoaaGreatDoor
open Go.Proofs.YtdikgijfekfaoaaGreatDoor.Abs
set_option maxRecDepth 20000
set_option maxHeartbeats 4000000
def VSt.init:VSt:=⟨true,[],[]⟩
theorem init_sm:VSt.init.sm:=fun k l h=>by simp [VSt.init,mget] at h
def plAt (s:VSt) (j:Nat):Bool:=(mget (s.rw.getD j ((0:Int),([]:List (List UInt8)))).1 s.pl).getD false
def okL (s:VSt) (lf:List Nat):Bool:=s.ok && (List.range s.rw.length).all fun j=>lf.contains j || !(plAt s j)
theorem okL_init (s:VSt):okL s (List.range s.rw.length)=s.ok:=by
  have:((List.range s.rw.length).all fun j=>(List.range s.rw.length).contains j || !(plAt s j))=true:=by
    rw [List.all_eq_true];intro j hj;rw [List.contains_iff_mem.2 hj];rfl
  rw [okL,this,Bool.and_true]
theorem okL_step (s:VSt) (lf:List Nat) (i:Nat) (hi:i∈lf) (hlt:i<s.rw.length):okL s (lf.filter (fun j=>!(Nat.beq j i)))=(okL s lf && !(plAt s i)):=by
  rw [Bool.eq_iff_iff]
  simp only [okL,Bool.and_eq_true,List.all_eq_true,Bool.or_eq_true,List.contains_iff_mem,List.mem_filter,List.mem_range,Bool.not_eq_true']
  constructor
  · rintro ⟨h1,h2⟩
    refine ⟨⟨h1,fun j hj=>?_⟩,?_⟩
    · rcases h2 j hj with h|h
      · exact .inl h.1
      · exact .inr h
    · rcases h2 i hlt with h|h
      · have:=h.2;rw [Nat.beq_refl] at this;cases this
      · exact h
  · rintro ⟨⟨h1,h2⟩,h3⟩
    refine ⟨h1,fun j hj=>?_⟩
    by_cases e:j=i
    · subst e;exact .inr h3
    · rcases h2 j hj with h|h
      · exact .inl ⟨h,nbf e⟩
      · exact .inr h
theorem filter_lt (lf:List Nat) (i:Nat) (hi:i∈lf):(lf.filter (fun j=>!(Nat.beq j i))).length<lf.length:=by
  rcases Nat.lt_or_ge (lf.filter (fun j=>!(Nat.beq j i))).length lf.length with h|h
  · exact h
  · have he:lf.filter (fun j=>!(Nat.beq j i))=lf:=List.Sublist.eq_of_length_le List.filter_sublist h
    rw [← he] at hi
    have:=(List.mem_filter.1 hi).2
    rw [Nat.beq_refl] at this;cases this
theorem okL_n {s:VSt} {lf:List Nat} {i:Nat} (hi:i∈lf) (hlt:i<s.rw.length) (hm:mget (s.rw.getD i ((0:Int),([]:List (List UInt8)))).1 s.pl=none):okL s (lf.filter (fun j=>!(Nat.beq j i)))=okL s lf:=by
  rw [okL_step s lf i hi hlt,plAt,hm];simp
theorem okL_s {s:VSt} {lf:List Nat} {i:Nat} {b:Bool} (hi:i∈lf) (hlt:i<s.rw.length) (hm:mget (s.rw.getD i ((0:Int),([]:List (List UInt8)))).1 s.pl=some b):okL s (lf.filter (fun j=>!(Nat.beq j i)))=(okL s lf && !b):=by
  rw [okL_step s lf i hi hlt,plAt,hm];simp
theorem okL_f {s:VSt} {lf:List Nat} {i:Nat} (hi:i∈lf) (hlt:i<s.rw.length) (h:¬ okL s lf=true):okL s (lf.filter (fun j=>!(Nat.beq j i)))=false:=by
  rw [okL_step s lf i hi hlt,Bool.eq_false_iff.2 h];rfl
def validB (t:Ty):Bool:=okL (visV VSt.init t) []
noncomputable def c14:Code:=bodyOf Tryz.f14
theorem tvalid_spec (t:Ty) (hs:t.sz<100000000):CallsP cx 14 [Ty.v t] (.bool (validB t)):=by
 refine func_intro (cx:=cx) 26 0 [(ResultVar.tmp 2)] Tryz.func14 rfl rfl rfl rfl rfl zq ?_
 show wpA cx 26 0 (at_ c14 []) _ _ _
 refine qZ [(0,Ty.v t)] [] ?_ ?_
 refine qW 2 [(1,.ptr 0 0)] [t.bx] ?_ ?_
 refine qW 2 [(1,.ptr 0 0),(3,.ptr 1 0)] [t.bx,.box [.bool true]] ?_ ?_
 refine qW 3 [(1,.ptr 0 0),(3,.ptr 1 0),(4,.ptr 3 0)] [t.bx,.box [.bool true],.map (encM (AVal.int .i64) AVal.bool ([]:List (Int×Bool))),.box [.map 2]] ?_ ?_
 refine qW 3 [(1,.ptr 0 0),(3,.ptr 1 0),(4,.ptr 3 0),(5,.ptr 5 0)] [t.bx,.box [.bool true],.map (encM (AVal.int .i64) AVal.bool ([]:List (Int×Bool))),.box [.map 2],.map (encM (AVal.int .i64) encS ([]:List (Int×List (List UInt8)))),.box [.map 4]] ?_ ?_
 refine qV 2 ?_ ?_
 refine vcallA (args:=[.agg [.int .i64 (t.kind),.str t.name,.int .i64 (t.n),.imm (t.names.map AVal.str),.imm (t.kids.map Ty.enc)],.fn (.func 55) [] [.ptr 1 0,.ptr 3 0,.ptr 5 0]]) (hs:=[t.bx,.box [.bool true],.map (encM (AVal.int .i64) AVal.bool ([]:List (Int×Bool))),.box [.map 2],.map (encM (AVal.int .i64) encS ([]:List (Int×List (List UInt8)))),.box [.map 4]]) (hs':=[t.bx,.box [.bool ((visV VSt.init t).ok)],.map (encM (AVal.int .i64) AVal.bool (visV VSt.init t).pl),.box [.map 2],.map (encM (AVal.int .i64) encS (visV VSt.init t).rw),.box [.map 4]]) (rest:=[]) kq kq kq kq kq (visitV_spec t t VSt.init oq init_sm) (by simp [AObj.belO,hpV,Ty.v]) (by simp [AObj.belO,hpV,Ty.v]) rfl (by simp [AObj.belO,hpV,Ty.v]) (by simp [AObj.belO,hpV,Ty.v]) kq ?_
 refine qN [(3,.ptr 1 0),(4,.ptr 3 0),(5,.ptr 5 0)] [t.bx,.box [.bool ((visV VSt.init t).ok)],.map (encM (AVal.int .i64) AVal.bool (visV VSt.init t).pl),.box [.map 2],.map (encM (AVal.int .i64) encS (visV VSt.init t).rw),.box [.map 4]] ?_ ?_
 refine qSeq ?_ ?_
 refine qV 1 ?_ ?_
 refine vrange (ek:=(AVal.int .i64)) (ev:=encS) (l:=(visV VSt.init t).rw) (m:=4) kq kq kq ty72 kq ?_
 refine qN [(3,.ptr 1 0),(4,.ptr 3 0),(13,.itr 6)] [t.bx,.box [.bool ((visV VSt.init t).ok)],.map (encM (AVal.int .i64) AVal.bool (visV VSt.init t).pl),.box [.map 2],.map (encM (AVal.int .i64) encS (visV VSt.init t).rw),.box [.map 4],.iter 4 ((List.range (visV VSt.init t).rw.length),none)] ?_ ?_
 refine qB 0 ?_ ?_ ?_
 refine wLoop (σ:=(List Nat×Option Nat)) (fun ⟨lf,la⟩=>[(3,.ptr 1 0),(4,.ptr 3 0),(13,.itr 6)]) (fun ⟨lf,la⟩=>[t.bx,.box [.bool (okL (visV VSt.init t) lf)],.map (encM (AVal.int .i64) AVal.bool (visV VSt.init t).pl),.box [.map 2],.map (encM (AVal.int .i64) encS (visV VSt.init t).rw),.box [.map 4],.iter 4 (lf,la)]) (fun ⟨lf,la⟩=>True) (fun ⟨lf,la⟩=>lf.length) (List.range (visV VSt.init t).rw.length,none) kq (by trivial) ⟨⟨kq,kq,kq,trivial⟩,by simp [BelL,AVal.bel],by simp,(Eq.trans (b:=[t.bx,.box [.bool ((visV VSt.init t).ok)],.map (encM (AVal.int .i64) AVal.bool (visV VSt.init t).pl),.box [.map 2],.map (encM (AVal.int .i64) encS (visV VSt.init t).rw),.box [.map 4],.iter 4 ((List.range (visV VSt.init t).rw.length),none)]) kq (by (try dsimp only);rw [okL_init])),by simp [AObj.belO]⟩ ?_
 rintro ⟨lf,la⟩ _
 refine qZ [(3,.ptr 1 0),(4,.ptr 3 0),(13,.itr 6)] [t.bx,.box [.bool (okL (visV VSt.init t) lf)],.map (encM (AVal.int .i64) AVal.bool (visV VSt.init t).pl),.box [.map 2],.map (encM (AVal.int .i64) encS (visV VSt.init t).rw),.box [.map 4],.iter 4 (lf,la)] ?_ ?_
 refine qO ?_ ?_
 refine vnextM (ek:=(AVal.int .i64)) (ev:=encS) (l:=(visV VSt.init t).rw) (o:=6) (m:=4) (lf:=lf) (la:=la) ((0:Int),([]:List (List UInt8))) kq kq kq kq kq ?_ ?_
 intro hli1
 refine qR 1 [(3,.ptr 1 0),(4,.ptr 3 0),(13,.itr 6),(15,.bool false)] [t.bx,.box [.bool (okL (visV VSt.init t) lf)],.map (encM (AVal.int .i64) AVal.bool (visV VSt.init t).pl),.box [.map 2],.map (encM (AVal.int .i64) encS (visV VSt.init t).rw),.box [.map 4],.iter 4 (lf,la)] ?_ ?_
 refine qSeq ?_ ?_
 refine wIfF kq kq ?_
 refine wExit 0 kq kq ?_
 refine AThen_exit ?_
 refine AThen_exit ?_
 refine AIn_exit ?_
 refine AThen_normal ?_
 refine qz [(3,.ptr 1 0)] ?_ ?_
 refine qV 2 ?_ ?_
 refine qT ?_ ?_
 refine leafB (b:=(okL (visV VSt.init t) lf)) (.inr rfl) kq ?_
 · rw [validB];congr 1
 iterate 5 kernel_rfl
 intro i1 hii1 hlti1
 refine qR 1 [(3,.ptr 1 0),(4,.ptr 3 0),(13,.itr 6),(15,.bool true)] [t.bx,.box [.bool (okL (visV VSt.init t) lf)],.map (encM (AVal.int .i64) AVal.bool (visV VSt.init t).pl),.box [.map 2],.map (encM (AVal.int .i64) encS (visV VSt.init t).rw),.box [.map 4],.iter 4 ((lf.filter (fun j=>!(Nat.beq j i1))),(some i1))] ?_ ?_
 refine qSeq ?_ ?_
 refine wIfT kq kq ?_
 refine qK ?_ ?_
 refine qz [(3,.ptr 1 0),(4,.ptr 3 0),(13,.itr 6)] ?_ ?_
 refine qB 1 ?_ ?_ ?_
 refine qO ?_ ?_
 refine ventryM (ek:=(AVal.int .i64)) (ev:=encS) (l:=(visV VSt.init t).rw) (o:=6) (m:=4) (i:=i1) (lf:=(lf.filter (fun j=>!(Nat.beq j i1)))) ((0:Int),([]:List (List UInt8))) kq kq kq kq kq aq ?_
 refine qR 2 [(3,.ptr 1 0),(4,.ptr 3 0),(6,.int .i64 (((visV VSt.init t).rw.getD i1 ((0:Int),([]:List (List UInt8)))).1)),(13,.itr 6)] [t.bx,.box [.bool (okL (visV VSt.init t) lf)],.map (encM (AVal.int .i64) AVal.bool (visV VSt.init t).pl),.box [.map 2],.map (encM (AVal.int .i64) encS (visV VSt.init t).rw),.box [.map 4],.iter 4 ((lf.filter (fun j=>!(Nat.beq j i1))),(some i1))] ?_ ?_
 refine qo ?_ ?_
 refine qr 2 ?_ ?_
 by_cases hb2:(okL (visV VSt.init t) lf)=true
 refine vset 18 (.bool (okL (visV VSt.init t) lf)) (.bool true) (extO (extIn extLoopA)) kq (congrArg AVal.bool (hb2)) ?_
 refine vset 19 (.bool (okL (visV VSt.init t) lf)) (.bool true) (extO (extIn extLoopA)) kq (congrArg AVal.bool (hb2)) ?_
 refine qr 2 ?_ ?_
 rcases hm3:mget (((visV VSt.init t).rw.getD i1 ((0:Int),([]:List (List UInt8)))).1) (visV VSt.init t).pl with _|x3
 refine qy (o_lookN (ok:=false) (o:=2) (ek:=(AVal.int .i64)) (ev:=AVal.bool) (l:=(visV VSt.init t).pl) (k:=(((visV VSt.init t).rw.getD i1 ((0:Int),([]:List (List UInt8)))).1)) keyI hm3 kq ty71 ty3 rfl ty4 kq) ?_ ?_ ?_
 refine qr 3 ?_ ?_
 refine qe ?_ ?_
 refine AIn_normal ?_
 refine AThen_normal ⟨((lf.filter (fun j=>!(Nat.beq j i1))),(some i1)),?_,?_,⟨⟨kq,kq,kq,trivial⟩,by simp [BelL,AVal.bel],by simp,(Eq.trans (b:=[t.bx,.box [.bool true],.map (encM (AVal.int .i64) AVal.bool (visV VSt.init t).pl),.box [.map 2],.map (encM (AVal.int .i64) encS (visV VSt.init t).rw),.box [.map 4],.iter 4 ((lf.filter (fun j=>!(Nat.beq j i1))),(some i1))]) kq (by (try dsimp only);first|(rw [okL_f hii1 hlti1 aq];done)|(rw [okL_n hii1 hlti1 aq];simp only [*];done)|(rw [okL_s hii1 hlti1 aq];simp only [*];simp;done))),by simp [AObj.belO]⟩⟩
 rotate_left
 · try dsimp only
   all_goals trivial
 iterate 4 kernel_rfl
 refine qy (o_lookS (ok:=false) (o:=2) (ek:=(AVal.int .i64)) (ev:=AVal.bool) (l:=(visV VSt.init t).pl) (k:=(((visV VSt.init t).rw.getD i1 ((0:Int),([]:List (List UInt8)))).1)) (x:=x3) keyI hm3 kq ty71 ty3 rfl ty4 kq) ?_ ?_ ?_
 refine qr 3 ?_ ?_
 refine qe ?_ ?_
 refine AIn_normal ?_
 refine AThen_normal ⟨((lf.filter (fun j=>!(Nat.beq j i1))),(some i1)),?_,?_,⟨⟨kq,kq,kq,trivial⟩,by simp [BelL,AVal.bel],by simp,(Eq.trans (b:=[t.bx,.box [.bool (!(x3))],.map (encM (AVal.int .i64) AVal.bool (visV VSt.init t).pl),.box [.map 2],.map (encM (AVal.int .i64) encS (visV VSt.init t).rw),.box [.map 4],.iter 4 ((lf.filter (fun j=>!(Nat.beq j i1))),(some i1))]) kq (by (try dsimp only);first|(rw [okL_f hii1 hlti1 aq];done)|(rw [okL_n hii1 hlti1 aq];simp only [*];done)|(rw [okL_s hii1 hlti1 aq];simp only [*];simp;done))),by simp [AObj.belO]⟩⟩
 rotate_left
 · try dsimp only
   all_goals trivial
 iterate 5 kernel_rfl
 refine vset 18 (.bool (okL (visV VSt.init t) lf)) (.bool false) (extO (extIn extLoopA)) kq (congrArg AVal.bool (Bool.eq_false_iff.2 hb2)) ?_
 refine vset 19 (.bool (okL (visV VSt.init t) lf)) (.bool false) (extO (extIn extLoopA)) kq (congrArg AVal.bool (Bool.eq_false_iff.2 hb2)) ?_
 refine qr 6 ?_ ?_
 refine qe ?_ ?_
 refine AIn_normal ?_
 refine AThen_normal ⟨((lf.filter (fun j=>!(Nat.beq j i1))),(some i1)),?_,?_,⟨⟨kq,kq,kq,trivial⟩,by simp [BelL,AVal.bel],by simp,(Eq.trans (b:=[t.bx,.box [.bool false],.map (encM (AVal.int .i64) AVal.bool (visV VSt.init t).pl),.box [.map 2],.map (encM (AVal.int .i64) encS (visV VSt.init t).rw),.box [.map 4],.iter 4 ((lf.filter (fun j=>!(Nat.beq j i1))),(some i1))]) kq (by (try dsimp only);first|(rw [okL_f hii1 hlti1 aq];done)|(rw [okL_n hii1 hlti1 aq];simp only [*];done)|(rw [okL_s hii1 hlti1 aq];simp only [*];simp;done))),by simp [AObj.belO]⟩⟩
 rotate_left
 · try dsimp only
   all_goals trivial
 iterate 26 kernel_rfl
 all_goals
  try dsimp only
  exact filter_lt lf _ aq
end Go.Proofs.YtdikgijfekfaoaaGreatDoor
namespace Go.Proofs.YtdikgijfekfaoaaGreatDoor
open Go.Proofs.YtdikgijfekfaoaaGreatDoor.Abs
set_option maxRecDepth 20000
set_option maxHeartbeats 4000000
structure Occ where
  n:Int
  row:Bool
  names:List (List UInt8)
def Occ.zero:Occ:=⟨0,false,[]⟩
def Occ.v (o:Occ):AVal:=.agg [.int .i64 o.n,.bool o.row,.imm (o.names.map .str)]
@[simp] theorem frz_occ (h:AHeap) (o:Occ):o.v.frz h=o.v:=by simp [Occ.v]
@[simp] theorem bel_occ (k:Nat) (o:Occ):o.v.bel k=true:=by simp [Occ.v]
@[simp] theorem owns_occ (o:Occ):o.v.owns=[]:=by simp [Occ.v]
@[simp] theorem frzL_occs (h:AHeap) (l:List Occ):frzL h (l.map Occ.v)=l.map Occ.v:=frzL_map_same h (fun o=>frz_occ h o) l
@[simp] theorem belL_occs (k:Nat) (l:List Occ):belL k (l.map Occ.v)=true:=belL_map k (fun o=>bel_occ k o) l
@[simp] theorem ownsL_occs (l:List Occ):ownsL (l.map Occ.v)=[]:=ownsL_map (fun o=>owns_occ o) l
theorem frzL_app (h:AHeap) (a b:List AVal):frzL h (a++b)=frzL h a++frzL h b:=by rw [frzL_map,frzL_map,frzL_map,List.map_append]
theorem belL_app (k:Nat):∀ (a b:List AVal),belL k (a++b)=(belL k a && belL k b)
  | [],b=>by simp [belL]
  | x::a,b=>by simp only [List.cons_append,belL,belL_app k a b,Bool.and_assoc]
theorem ownsL_app:∀ (a b:List AVal),ownsL (a++b)=ownsL a++ownsL b
  | [],b=>rfl
  | x::a,b=>by simp only [List.cons_append,ownsL,ownsL_app a b,List.append_assoc]
mutual
def occs:Ty→List Occ
  | .mk k _ n l ks=>((if k=6 then [⟨n,false,[]⟩] else [])++occsL ks)++(if k=5∧n≠0 then [⟨n,true,l⟩] else [])
def occsL:List Ty→List Occ
  | []=>[]
  | t::l=>occs t++occsL l
end
def occV (t:Ty):List Occ:=if t.kind=6 then [⟨t.n,false,[]⟩] else []
def occR (t:Ty):List Occ:=if t.kind=5∧t.n≠0 then [⟨t.n,true,t.names⟩] else []
theorem occs_eq (t:Ty):occs t=(occV t++occsL t.kids)++occR t:=by cases t;simp only [occs,occV,occR,Ty.kind,Ty.n,Ty.names,Ty.kids];rfl
theorem occsL_snoc (t:Ty):∀ l,occsL (l++[t])=occsL l++occs t
  | []=>by simp [occsL]
  | x::l=>by simp only [List.cons_append,occsL,occsL_snoc t l,List.append_assoc]
theorem occsL_take (l:List Ty) (k:Nat) (h:k<l.length):occsL (l.take (k+1))=occsL (l.take k)++occs (l.getD k Ty.zero):=by rw [take_snocT l k h,occsL_snoc]
mutual
theorem occs_len:∀ t:Ty,(occs t).length≤t.sz
  | .mk k x n l ks=>by
    have:=occsL_len ks
    simp only [occs,List.length_append,Ty.sz]
    by_cases h6:k=6
    · rw [if_pos h6,if_neg oq];simp;omega
    · rw [if_neg h6];split <;> simp <;> omega
theorem occsL_len:∀ l:List Ty,(occsL l).length≤Ty.szL l
  | []=>by simp [occsL]
  | t::l=>by have:=occs_len t;have:=occsL_len l;simp only [occsL,List.length_append,Ty.szL];omega
end
mutual
def whl:Ty→Bool
  | .mk k x n l ks=>fmd (.mk k x n l ks) && whlL ks
def whlL:List Ty→Bool
  | []=>true
  | t::l=>whl t && whlL l
end
theorem whl_eq (t:Ty):whl t=(fmd t && whlL t.kids):=by cases t;rfl
theorem whlL_all:∀ l,whlL l=l.all whl
  | []=>rfl
  | t::l=>by rw [whlL,whlL_all l,List.all_cons]
def occBad (l:List Occ) (i k:Nat):Bool:=((l.getD i Occ.zero).n==(l.getD k Occ.zero).n) && ((l.getD i Occ.zero).row != (l.getD k Occ.zero).row || !((l.getD i Occ.zero).names==(l.getD k Occ.zero).names))
def occOk (l:List Occ):Bool:=(List.range l.length).all fun i=>(List.range i).all fun k=>!(occBad l i k)
def rvalidB (t:Ty):Bool:=whl t && occOk (occs t)
theorem occOk_true {l:List Occ} (h:∀ i,i<l.length→∀ k,k<i→occBad l i k=false):occOk l=true:=by
  unfold occOk;simp only [List.all_eq_true,List.mem_range,Bool.not_eq_true'];exact h
end Go.Proofs.YtdikgijfekfaoaaGreatDoor
namespace Go.Proofs.YtdikgijfekfaoaaGreatDoor
open Go.Proofs.YtdikgijfekfaoaaGreatDoor.Abs
def stepO (s:VSt) (o:Occ):VSt:=if o.row then ⟨s.ok && rwOk (mget o.n s.rw) o.names,s.pl,mset o.n o.names s.rw⟩ else ⟨s.ok,mset o.n true s.pl,s.rw⟩
def addOk (s:VSt) (b:Bool):VSt:=⟨s.ok && b,s.pl,s.rw⟩
theorem addOk_addOk (s:VSt) (a b:Bool):addOk (addOk s a) b=addOk s (a && b):=by simp [addOk,Bool.and_assoc]
theorem addOk_true (s:VSt):addOk s true=s:=by simp [addOk]
theorem stepO_add (s:VSt) (b:Bool) (o:Occ):stepO (addOk s b) o=addOk (stepO s o) b:=by
  unfold stepO addOk
  split <;> simp [Bool.and_assoc,Bool.and_comm b]
theorem fold_add (b:Bool):∀ (l:List Occ) (s:VSt),l.foldl stepO (addOk s b)=addOk (l.foldl stepO s) b
  | [],s=>rfl
  | o::l,s=>by rw [List.foldl_cons,stepO_add,fold_add b l,List.foldl_cons]
theorem stepV_6 (s:VSt) (t:Ty) (h:¬ t.kind=5):stepV s t=addOk ((occV t).foldl stepO s) (fmd t):=by
  unfold stepV occV
  by_cases h6:t.kind=6
  · rw [if_pos h6,if_pos h6];rfl
  · rw [if_neg h6,if_neg h6,if_neg (fun hc=>h hc.1)];rfl
theorem stepV_5 (s:VSt) (t:Ty) (h:t.kind=5):stepV s t=addOk ((occR t).foldl stepO s) (fmd t):=by
  unfold stepV occR
  rw [if_neg oq]
  by_cases hn:t.n=0
  · rw [if_neg (fun hc=>hc.2 hn),if_neg (fun hc=>hc.2 hn)];rfl
  · rw [if_pos ⟨h,hn⟩,if_pos ⟨h,hn⟩];simp [stepO,addOk,Bool.and_assoc,Bool.and_comm (fmd t)]
mutual
theorem vis_fold:∀ (t:Ty) (s:VSt),visV s t=addOk ((occs t).foldl stepO s) (whl t)
  | .mk k x n l ks,s=>by
    by_cases h5:k=5
    · rw [visV_rec s (.mk k x n l ks) h5,stepV_5 _ (.mk k x n l ks) h5,occs_eq,whl_eq]
      have e:occV (.mk k x n l ks)=[]:=by unfold occV;rw [if_neg (by simp only [Ty.kind];omega)]
      rw [e,List.nil_append,List.foldl_append]
      show addOk (List.foldl stepO (visVL s ks) _) _=addOk (List.foldl stepO (List.foldl stepO s (occsL ks)) _) (_ && whlL ks)
      rw [vis_foldL ks s,fold_add,addOk_addOk,Bool.and_comm]
    · rw [visV_oth s (.mk k x n l ks) h5,stepV_6 _ (.mk k x n l ks) h5,occs_eq,whl_eq]
      have e:occR (.mk k x n l ks)=[]:=by unfold occR;rw [if_neg (fun hc=>h5 hc.1)]
      rw [e,List.append_nil,List.foldl_append]
      show visVL (addOk _ _) ks=addOk (List.foldl stepO _ (occsL ks)) (_ && whlL ks)
      rw [vis_foldL ks,fold_add,addOk_addOk]
theorem vis_foldL:∀ (l:List Ty) (s:VSt),visVL s l=addOk ((occsL l).foldl stepO s) (whlL l)
  | [],s=>by simp only [visVL,occsL,whlL,addOk_true,List.foldl_nil]
  | t::l,s=>by
    simp only [visVL,occsL,whlL]
    rw [vis_fold t s,vis_foldL l,fold_add,addOk_addOk,List.foldl_append]
end
theorem mget_mem {κ α:Type} [DecidableEq κ] (k:κ) (v:α):∀ l:List (κ×α),mget k l=some v→(k,v)∈l
  | [],h=>by simp [mget] at h
  | p::l,h=>by
    simp only [mget] at h
    split at h
    · rename_i e;cases h;subst e;exact List.mem_cons_self
    · exact List.mem_cons_of_mem _ (mget_mem k v l h)
theorem mget_of_mem {κ α:Type} [DecidableEq κ]:∀ (l:List (κ×α)) (p:κ×α),p∈l→∃ v,mget p.1 l=some v
  | q::l,p,h=>by
    simp only [mget]
    by_cases e:p.1=q.1
    · rw [if_pos e];exact ⟨_,rfl⟩
    · rw [if_neg e]
      rcases List.mem_cons.1 h with h|h
      · rw [h] at e;exact absurd rfl e
      · exact mget_of_mem l p h
structure OInv (l:List Occ) (s:VSt):Prop where
  pl:∀ n,mget n s.pl=some true↔∃ o∈l,o.row=false∧o.n=n
  plt:∀ n b,mget n s.pl=some b→b=true
  rw1:∀ n w,mget n s.rw=some w→∃ o∈l,o.row=true∧o.n=n∧o.names=w
  rw2:∀ o∈l,o.row=true→∃ w,mget o.n s.rw=some w
  rw3:s.ok=true→∀ o∈l,o.row=true→mget o.n s.rw=some o.names
  ok:(∀ o∈l,∀ o'∈l,o.row=true→o'.row=true→o.n=o'.n→o.names=o'.names)→s.ok=true
theorem oinv_nil:OInv [] VSt.init:=⟨by simp [VSt.init,mget],by simp [VSt.init,mget],by simp [VSt.init,mget],by simp,by simp,fun _=>rfl⟩
theorem oinv_step {l:List Occ} {s:VSt} (h:OInv l s) (o:Occ):OInv (l++[o]) (stepO s o):=by
  unfold stepO
  cases hr:o.row with
  | false =>
    simp only [Bool.false_eq_true,if_false]
    refine ⟨fun n=>?_,fun n b=>?_,fun n w hw=>?_,fun q hq hqr=>?_,fun hok q hq hqr=>?_,fun hc=>?_⟩
    · simp only [mget_mset]
      by_cases e:n=o.n
      · subst e;simp;exact .inr hr
      · rw [if_neg e,h.pl n]
        constructor
        · rintro ⟨q,h1,h2⟩;exact ⟨q,List.mem_append_left _ h1,h2⟩
        · rintro ⟨q,h1,h2⟩
          rcases List.mem_append.1 h1 with h1|h1
          · exact ⟨q,h1,h2⟩
          · simp at h1;subst h1;exact absurd h2.2.symm e
    · simp only [mget_mset]
      by_cases e:n=o.n
      · rw [if_pos e];intro h;cases h;rfl
      · rw [if_neg e];exact h.plt n b
    · obtain ⟨q,h1,h2⟩:=h.rw1 n w hw;exact ⟨q,List.mem_append_left _ h1,h2⟩
    · rcases List.mem_append.1 hq with h1|h1
      · exact h.rw2 q h1 hqr
      · simp at h1;subst h1;rw [hr] at hqr;cases hqr
    · rcases List.mem_append.1 hq with h1|h1
      · exact h.rw3 hok q h1 hqr
      · simp at h1;subst h1;rw [hr] at hqr;cases hqr
    · exact h.ok fun a ha b hb=>hc a (List.mem_append_left _ ha) b (List.mem_append_left _ hb)
  | true =>
    simp only [if_true]
    have hrw:rwOk (mget o.n s.rw) o.names=true→∀ w,mget o.n s.rw=some w→w=o.names:=by
      intro h1 w hw;rw [hw] at h1;simpa [rwOk] using h1
    refine ⟨fun n=>?_,h.plt,fun n w hw=>?_,fun q hq hqr=>?_,fun hok q hq hqr=>?_,fun hc=>?_⟩
    · rw [h.pl n]
      constructor
      · rintro ⟨q,h1,h2⟩;exact ⟨q,List.mem_append_left _ h1,h2⟩
      · rintro ⟨q,h1,h2⟩
        rcases List.mem_append.1 h1 with h1|h1
        · exact ⟨q,h1,h2⟩
        · simp at h1;subst h1;rw [hr] at h2;cases h2.1
    · simp only [mget_mset] at hw
      split at hw
      · rename_i e;cases hw;exact ⟨o,by simp,hr,e.symm,rfl⟩
      · obtain ⟨q,h1,h2⟩:=h.rw1 n w hw;exact ⟨q,List.mem_append_left _ h1,h2⟩
    · simp only [mget_mset]
      split
      · exact ⟨_,rfl⟩
      · rename_i e
        rcases List.mem_append.1 hq with h1|h1
        · exact h.rw2 q h1 hqr
        · simp at h1;subst h1;exact absurd rfl e
    · simp only [Bool.and_eq_true] at hok
      simp only [mget_mset]
      rcases List.mem_append.1 hq with h1|h1
      · have:=h.rw3 hok.1 q h1 hqr
        split
        · rename_i e
          rw [e] at this
          rw [hrw hok.2 _ this]
        · exact this
      · simp at h1;subst h1;rw [if_pos rfl]
    · simp only [Bool.and_eq_true]
      refine ⟨h.ok fun a ha b hb=>hc a (List.mem_append_left _ ha) b (List.mem_append_left _ hb),?_⟩
      cases hm:mget o.n s.rw with
      | none=>rfl
      | some w =>
        obtain ⟨q,h1,h2,h3,h4⟩:=h.rw1 _ _ hm
        have:=hc q (List.mem_append_left _ h1) o zq h2 hr h3
        simp [rwOk,← h4,this]
theorem oinv_fold (l:List Occ):OInv l (l.foldl stepO VSt.init):=by
  have:∀ (r l:List Occ) (s:VSt),OInv l s→OInv (l++r) (r.foldl stepO s):=by
    intro r
    induction r with
    | nil=>intro l s h;simpa using h
    | cons o r ih=>intro l s h;have:=ih (l++[o]) _ (oinv_step h o);simpa using this
  simpa using this l [] _ oinv_nil
def Con (l:List Occ):Prop:=∀ o∈l,∀ o'∈l,o.n=o'.n→o.row=o'.row∧o.names=o'.names
theorem okL_iff (s:VSt):okL s []=true↔s.ok=true∧∀ p∈s.rw,(mget p.1 s.pl).getD false=false:=by
  simp only [okL,Bool.and_eq_true,List.all_eq_true,List.mem_range,List.contains_nil,Bool.false_or,Bool.not_eq_true',plAt]
  constructor
  · rintro ⟨h1,h2⟩
    refine ⟨h1,fun p hp=>?_⟩
    obtain ⟨i,hi,rfl⟩:=List.getElem_of_mem hp
    have:=h2 i hi
    rwa [List.getD_eq_getElem?_getD,List.getElem?_eq_getElem hi] at this
  · rintro ⟨h1,h2⟩
    refine ⟨h1,fun i hi=>?_⟩
    rw [List.getD_eq_getElem?_getD,List.getElem?_eq_getElem hi]
    exact h2 _ (List.getElem_mem hi)
theorem okL_con (l:List Occ) (hn:∀ o∈l,o.row=false→o.names=[]):okL (l.foldl stepO VSt.init) []=true↔Con l:=by
  have h:=oinv_fold l
  rw [okL_iff]
  constructor
  · rintro ⟨h1,h2⟩ o ho o' ho' e
    have mix:∀ o∈l,∀ o'∈l,o.n=o'.n→o.row=true→o'.row=false→False:=by
      intro o ho o' ho' e hr hr'
      obtain ⟨w,hw⟩:=h.rw2 o ho hr
      have:=h2 _ (mget_mem _ _ _ hw)
      have hp:=(h.pl o.n).2 ⟨o',ho',hr',e.symm⟩
      simp only at this
      rw [hp] at this;cases this
    cases hr:o.row with
    | false =>
      cases hr':o'.row with
      | false=>exact ⟨rfl,by rw [hn o ho hr,hn o' ho' hr']⟩
      | true=>exact (mix o' ho' o ho e.symm hr' hr).elim
    | true =>
      cases hr':o'.row with
      | false=>exact (mix o ho o' ho' e hr hr').elim
      | true =>
        have a:=h.rw3 h1 o ho hr
        have b:=h.rw3 h1 o' ho' hr'
        rw [e,b] at a
        exact ⟨rfl,by injection a with a;exact a.symm⟩
  · intro hc
    refine ⟨h.ok fun a ha b hb _ _ e=>(hc a ha b hb e).2,fun p hp=>?_⟩
    obtain ⟨w,hw⟩:=mget_of_mem _ p hp
    obtain ⟨o,ho,hr,e,_⟩:=h.rw1 _ _ hw
    cases hm:mget p.1 (l.foldl stepO VSt.init).pl with
    | none=>rfl
    | some b =>
      have hb:=h.plt _ _ hm
      subst hb
      obtain ⟨o',ho',hr',e'⟩:=(h.pl _).1 hm
      have:=(hc o ho o' ho' (e.trans e'.symm)).1
      rw [hr,hr'] at this;cases this
theorem occBad_iff (l:List Occ) (i k:Nat):occBad l i k=false↔((l.getD i Occ.zero).n=(l.getD k Occ.zero).n→(l.getD i Occ.zero).row=(l.getD k Occ.zero).row∧(l.getD i Occ.zero).names=(l.getD k Occ.zero).names):=by
  unfold occBad
  generalize l.getD i Occ.zero=a
  generalize l.getD k Occ.zero=b
  by_cases h1:a.n=b.n <;> by_cases h2:a.row=b.row <;> by_cases h3:a.names=b.names <;> simp [h1,h2,h3]
theorem occOk_con (l:List Occ):occOk l=true↔Con l:=by
  have e:∀ i (h:i<l.length),l.getD i Occ.zero=l[i]:=fun i h=>by rw [List.getD_eq_getElem?_getD,List.getElem?_eq_getElem h];rfl
  unfold occOk Con
  simp only [List.all_eq_true,List.mem_range,Bool.not_eq_true',occBad_iff]
  constructor
  · intro h o ho o' ho' hn
    obtain ⟨i,hi,rfl⟩:=List.getElem_of_mem ho
    obtain ⟨k,hk,rfl⟩:=List.getElem_of_mem ho'
    rcases Nat.lt_trichotomy i k with hlt|rfl|hlt
    · have:=h k hk i hlt;rw [e k hk,e i hi] at this
      exact ⟨(this hn.symm).1.symm,(this hn.symm).2.symm⟩
    · exact ⟨rfl,rfl⟩
    · have:=h i hi k hlt;rw [e k hk,e i hi] at this
      exact this hn
  · intro h i hi k hk
    rw [e i hi,e k oq]
    exact h _ (List.getElem_mem _) _ (List.getElem_mem _)
mutual
theorem occs_plain:∀ (t:Ty) (o:Occ),o∈occs t→o.row=false→o.names=[]
  | .mk k x n l ks,o,h=>by
    simp only [occs,List.mem_append] at h
    rcases h with (h|h)|h
    · split at h
      · simp at h;subst h;intro _;rfl
      · simp at h
    · exact occsL_plain ks o h
    · split at h
      · simp at h;subst h;intro hc;cases hc
      · simp at h
theorem occsL_plain:∀ (l:List Ty) (o:Occ),o∈occsL l→o.row=false→o.names=[]
  | [],o,h=>by simp [occsL] at h
  | t::l,o,h=>by
    simp only [occsL,List.mem_append] at h
    rcases h with h|h
    · exact occs_plain t o h
    · exact occsL_plain l o h
end
theorem okL_add (s:VSt) (b:Bool):okL (addOk s b) []=(b && okL s []):=by
  show ((s.ok && b) && _)=(b && (s.ok && _))
  rw [Bool.and_comm s.ok b,Bool.and_assoc];rfl
theorem valid_same (t:Ty):validB t=rvalidB t:=by
  unfold validB rvalidB
  rw [vis_fold,okL_add]
  congr 1
  rw [Bool.eq_iff_iff,okL_con _ (occs_plain t),occOk_con]
end Go.Proofs.YtdikgijfekfaoaaGreatDoor
namespace Go.Proofs.YtdikgijfekfaoaaGreatDoor
open Go.Proofs.YtdikgijfekfaoaaGreatDoor.Abs
set_option maxRecDepth 20000
set_option maxHeartbeats 4000000
def aroundI (x m:Int):Int:=if x<0 then (-(x+1)).tmod m else x.tmod m
def pickI (l:List Int) (q:Nat) (m:Int):Int:=if q<l.length then aroundI (l.getD q 0) m else 0
def i64L (l:List Int):Prop:=∀ x∈l,-9223372036854775808≤x∧x≤9223372036854775807
theorem i64L_at {l:List Int} (h:i64L l) (i:Nat):-9223372036854775808≤l.getD i 0∧l.getD i 0≤9223372036854775807:=by
  by_cases hi:i<l.length
  · rw [List.getD_eq_getElem?_getD,List.getElem?_eq_getElem hi];exact h _ (List.getElem_mem hi)
  · rw [List.getD_eq_getElem?_getD,List.getElem?_eq_none oq];simp
theorem tmod_bd {x m:Int} (hx:0≤x) (hm:0<m):0≤x.tmod m∧x.tmod m<m:=by
  rw [Int.tmod_eq_emod_of_nonneg hx];exact ⟨Int.emod_nonneg _ oq,Int.emod_lt_of_pos _ hm⟩
theorem aroundI_bd (x m:Int) (hm:0<m):0≤aroundI x m∧aroundI x m<m:=by
  unfold aroundI;split
  · exact tmod_bd oq hm
  · exact tmod_bd oq hm
theorem pickI_bd (l:List Int) (q:Nat) (m:Int) (hm:0<m):0≤pickI l q m∧pickI l q m<m:=by
  unfold pickI;split
  · exact aroundI_bd _ _ hm
  · omega
theorem pickI_in {l:List Int} {q:Nat} {m:Int} (h:q<l.length):pickI l q m=aroundI (l.getD q 0) m:=by rw [pickI,if_pos h]
theorem pickI_out {l:List Int} {q:Nat} {m:Int} (h:¬ q<l.length):pickI l q m=0:=by rw [pickI,if_neg h]
noncomputable def c43:Code:=bodyOf Tryz.f43
theorem names_spec  :CallsP cx 43 [] (.imm [.str [97],.str [98],.str [99],.str [105,100]]):=by
 refine func_intro (cx:=cx) 2 0 [(ResultVar.tmp 0)] Tryz.func43 rfl rfl rfl rfl rfl zq ?_
 show wpA cx 2 0 (at_ c43 []) _ _ _
 refine qZ [] [] ?_ ?_
 refine qU 1 [] ?_ ?_
 refine qU 2 [(0,.full [.str [97],.str [98],.str [99],.str [105,100]])] ?_ ?_
 refine wRet kq ?_
 refine leafP (l:=[.full [.str [97],.str [98],.str [99],.str [105,100]]]) (.inr rfl) kq ?_
 · exact ⟨rfl,rfl⟩
 iterate 3 kernel_rfl
noncomputable def c31:Code:=bodyOf Tryz.f31
theorem around_spec (x m:Int) (hx:-9223372036854775808≤x∧x≤9223372036854775807) (hm:0<m):CallsP cx 31 [.int .i64 (x),.int .i64 (m)] (.int .i64 (aroundI x m)):=by
 refine func_intro (cx:=cx) 13 0 [(ResultVar.tmp 4)] Tryz.func31 rfl rfl rfl rfl rfl zq ?_
 show wpA cx 13 0 (at_ c31 []) _ _ _
 refine qZ [(0,.int .i64 (x)),(1,.int .i64 (m))] [] ?_ ?_
 refine qU 1 [(0,.int .i64 (x)),(1,.int .i64 (m))] ?_ ?_
 refine qSeq ?_ ?_
 refine qU 2 [(0,.int .i64 (x)),(1,.int .i64 (m)),(6,.bool (decide ((x)<0)))] ?_ ?_
 by_cases hb1:(x)<0
 refine qt (decide_eq_true hb1) ?_ ?_
 refine qo ?_ ?_
 refine qr 1 ?_ ?_
 refine qy (o_add (a:=(x)) (b:=1) kq oq oq) ?_ ?_ ?_
 refine qy (o_neg (a:=((x)+1)) kq oq oq) ?_ ?_ ?_
 refine qR 1 [(0,.int .i64 (-((x)+1))),(1,.int .i64 (m))] [] ?_ ?_
 refine qV 2 ?_ ?_
 refine qy (o_rem (a:=(-((x)+1))) (b:=(m)) kq oq) ?_ ?_ ?_
 refine qX 1 ?_ ?_
 refine leafI (n:=((-((x)+1)).tmod (m))) (.inr rfl) kq ?_
 · simp [aroundI, *]
 iterate 12 kernel_rfl
 refine qf (decide_eq_false hb1) ?_ ?_
 refine qK ?_ ?_
 refine qz [(0,.int .i64 (x)),(1,.int .i64 (m))] ?_ ?_
 refine qV 2 ?_ ?_
 refine qy (o_rem (a:=(x)) (b:=(m)) kq oq) ?_ ?_ ?_
 refine qX 1 ?_ ?_
 refine leafI (n:=((x).tmod (m))) (.inr rfl) kq ?_
 · simp [aroundI, *]
 iterate 11 kernel_rfl
noncomputable def c51:Code:=bodyOf Tryz.f51
theorem pick_spec (l:List Int) (q:Nat) (m:Int) (hl:i64L l) (hm:0<m):CallsP cx 51 [.imm (l.map (AVal.int .i64)),.int .i64 ((q:Nat):Int),.int .i64 (m)] (.int .i64 (pickI l q m)):=by
 refine func_intro (cx:=cx) 21 0 [(ResultVar.tmp 6)] Tryz.func51 rfl rfl rfl rfl rfl zq ?_
 show wpA cx 21 0 (at_ c51 []) _ _ _
 refine qZ [(0,.imm (l.map (AVal.int .i64))),(1,nI q),(2,.int .i64 (m))] [] ?_ ?_
 refine qU 1 [(0,.imm (l.map (AVal.int .i64))),(1,nI q),(2,.int .i64 (m))] ?_ ?_
 refine qSeq ?_ ?_
 refine qV 3 ?_ ?_
 by_cases hb1:((q:Nat):Int)<0
 refine qm [8,9] (decide_eq_true hb1) ?_ ?_
 refine qR 5 [(0,.imm (l.map (AVal.int .i64))),(1,nI q),(2,.int .i64 (m)),(14,.bool true)] [] ?_ ?_
 refine wIfT kq kq ?_
 refine qV 1 ?_ ?_
 refine qT ?_ ?_
 apply aR
 refine leafI (n:=0) (.inr rfl) kq ?_
 rotate_left
 iterate 4 kernel_rfl
 refine qm [8,9] (decide_eq_false hb1) ?_ ?_
 refine qr 2 ?_ ?_
 refine qy (o_lenmap (l:=l) (enc:=(AVal.int .i64)) kq ty26) ?_ ?_ ?_
 refine qR 2 [(0,.imm (l.map (AVal.int .i64))),(1,nI q),(2,.int .i64 (m)),(14,.bool (decide (((q:Nat):Int) ≥ ((l.length:Nat):Int))))] [] ?_ ?_
 by_cases hb2:((q:Nat):Int) ≥ ((l.length:Nat):Int)
 refine qt (decide_eq_true hb2) ?_ ?_
 refine qV 1 ?_ ?_
 refine qT ?_ ?_
 apply aR
 refine leafI (n:=0) (.inr rfl) kq ?_
 rotate_left
 iterate 3 kernel_rfl
 refine qf (decide_eq_false hb2) ?_ ?_
 refine qK ?_ ?_
 refine qz [(0,.imm (l.map (AVal.int .i64))),(1,nI q),(2,.int .i64 (m))] ?_ ?_
 refine qV 2 ?_ ?_
 refine qy (o_ixmap (k:=.i64) (l:=l) (enc:=(AVal.int .i64)) (i:=((q:Nat):Int)) 0 kq ty26 ty3 (fun _=>rfl) oq oq) ?_ ?_ ?_
 refine qr 2 ?_ ?_
 refine qc [.int .i64 ((l.getD q 0)),.int .i64 (m)] (around_spec ((l.getD q 0)) (m) (i64L_at hl _) oq) ?_ ?_
 refine qX 1 ?_ ?_
 refine leafI (n:=(aroundI ((l.getD q 0)) (m))) (.inr rfl) kq ?_
 rotate_left
 iterate 18 kernel_rfl
 all_goals
  first|(exfalso;omega)|(rw [pickI_in oq];done)|(rw [pickI_in oq];simp;done)|(rw [pickI_out oq];done)
theorem idxS_le (l:List (List UInt8)) (s:List UInt8):-1≤idxS l s∧idxS l s<(l.length:Nat)∨l=[]∧idxS l s=-1:=by
  unfold idxS
  split
  · rename_i i hi
    obtain ⟨h1,_⟩:=List.findIdx?_eq_some_iff_getElem.1 hi
    left;omega
  · cases l with
    | nil=>right;exact ⟨rfl,rfl⟩
    | cons=>left;simp;omega
end Go.Proofs.YtdikgijfekfaoaaGreatDoor
namespace Go.Proofs.YtdikgijfekfaoaaGreatDoor
open Go.Proofs.YtdikgijfekfaoaaGreatDoor.Abs
set_option maxRecDepth 20000
set_option maxHeartbeats 4000000
mutual
theorem bel_refs:∀ x:AVal,x.bel 0=true→x.refs=[]
  | .agg cs,h=>by simp only [AVal.refs];exact belL_refs cs (by simpa [AVal.bel] using h)
  | .tup cs,h=>by simp only [AVal.refs];exact belL_refs cs (by simpa [AVal.bel] using h)
  | .pimm cs _,h=>by simp only [AVal.refs];exact belL_refs cs (by simpa [AVal.bel] using h)
  | .imm l,h=>by simp only [AVal.refs];exact belL_refs l (by simpa [AVal.bel] using h)
  | .full l,h=>by simp only [AVal.refs];exact belL_refs l (by simpa [AVal.bel] using h)
  | .fn f xs ys,h=>by
    simp only [AVal.bel,Bool.and_eq_true] at h
    simp only [AVal.refs,belL_refs xs h.1,belL_refs ys h.2,List.append_nil]
  | .iface t v,h=>by simp only [AVal.refs];exact bel_refs v (by simpa [AVal.bel] using h)
  | .ptr o _,h=>by simp [AVal.bel] at h
  | .pown o _ _ _,h=>by simp [AVal.bel] at h
  | .own o _ _,h=>by simp [AVal.bel] at h
  | .map o,h=>by simp [AVal.bel] at h
  | .itr o,h=>by simp [AVal.bel] at h
  | .any,_=>rfl
  | .bool _,_=>rfl
  | .int _ _,_=>rfl
  | .str _,_=>rfl
  | .nilp,_=>rfl
  | .nilm,_=>rfl
  | .nilfn,_=>rfl
  | .nili,_=>rfl
theorem belL_refs:∀ l:List AVal,belL 0 l=true→refsL l=[]
  | [],_=>rfl
  | x::l,h=>by
    simp only [belL,Bool.and_eq_true] at h
    simp only [refsL,bel_refs x h.1,belL_refs l h.2,List.append_nil]
end
@[simp] theorem refs_strs (l:List (List UInt8)):refsL (l.map .str)=[]:=belL_refs _ zq
@[simp] theorem refs_tys (l:List Ty):refsL (l.map Ty.enc)=[]:=belL_refs _ zq
@[simp] theorem refs_ints (l:List Int):refsL (l.map (.int .i64))=[]:=belL_refs _ zq
@[simp] theorem ren_strs (r:Nat→Nat) (l:List (List UInt8)):renL r (l.map .str)=l.map .str:=belL_ren _ _ zq
@[simp] theorem ren_tys (r:Nat→Nat) (l:List Ty):renL r (l.map Ty.enc)=l.map Ty.enc:=belL_ren _ _ zq
@[simp] theorem ren_ints (r:Nat→Nat) (l:List Int):renL r (l.map (.int .i64))=l.map (.int .i64):=belL_ren _ _ zq
def putAt (l:List (List UInt8)) (s:List UInt8):Nat:=(l.takeWhile (fun x=>sLess x s)).length
def putN (t:Ty) (s:List UInt8):List (List UInt8):=t.names.take (putAt t.names s)++[s]++t.names.drop (putAt t.names s)
def putK (t:Ty) (s:List UInt8) (x:Ty):List Ty:=t.kids.take (putAt t.names s)++[x]++t.kids.drop (putAt t.names s)
def putT (t:Ty) (s:List UInt8) (x:Ty):Ty:=.mk 5 [] t.n (putN t s) (putK t s x)
def recV (t:Ty):AVal:=.agg [.int .i64 t.kind,.str t.name,.int .i64 t.n,.imm (t.names.map .str),.own 0 0 t.kids.length]
def recH (t:Ty):AHeap:=[.arr 5 (t.kids.map Ty.enc) 0]
theorem recV_put (t:Ty) (s:List UInt8) (x:Ty):recV (putT t s x)=.agg [.int .i64 5,.str [],.int .i64 t.n,.imm ((putN t s).map .str),.own 0 0 (putK t s x).length]:=rfl
theorem recH_put (t:Ty) (s:List UInt8) (x:Ty):recH (putT t s x)=[.arr 5 ((putK t s x).map Ty.enc) 0]:=rfl
theorem putAt_stop:∀ (l:List (List UInt8)) (s:List UInt8) (k:Nat),(∀ i,i<k→sLess (l.getD i []) s=true)→k≤l.length→(k<l.length→sLess (l.getD k []) s=false)→putAt l s=k
  | [],s,k,h,hk,_=>by simp at hk;subst hk;rfl
  | x::l,s,0,h,hk,hs=>by
    have:=hs zq
    simp at this
    simp [putAt,List.takeWhile,this]
  | x::l,s,k+1,h,hk,hs=>by
    have h0:=h 0 oq
    simp at h0
    have:=putAt_stop l s k (fun i hi=>by have:=h (i+1) oq;simpa using this) (by simpa using hk) (fun hlt=>by have:=hs (by simpa using hlt);simpa using this)
    simp [putAt,List.takeWhile,h0] at this ⊢
    exact this
noncomputable def c53:Code:=bodyOf Tryz.f53
theorem put_raw (t x:Ty) (s:List UInt8) (hs:t.sz<100000000) (hx:x.sz<100000000) (hnk:t.names.length=t.kids.length):CallsA cx 53 [Ty.v t,.str s,Ty.v x] [] (fun v h=>v=recV (putT t s x)∧h=recH (putT t s x)):=by
 have hz1:=sz_names t
 have hz2:=sz_kids t
 refine func_raw (cx:=cx) 61 0 [(ResultVar.cell 6 25)] Tryz.func53 rfl rfl rfl rfl rfl zq ?_
 show wpA cx 61 0 (at_ c53 []) _ _ _
 refine qZ [(0,Ty.v t),(1,.str s),(2,Ty.v x)] [] ?_ ?_
 refine qW 3 [(1,.str s),(3,.ptr 0 0),(5,.ptr 1 0),(6,.ptr 2 0)] [t.bx,x.bx,.box zC] ?_ ?_
 refine qU 1 [(1,.str s),(3,.ptr 0 0),(5,.ptr 1 0),(6,.ptr 2 0),(7,.int .i64 0)] ?_ ?_
 refine qSeq ?_ ?_
 refine qB 0 ?_ ?_ ?_
 refine wLoop (σ:=Nat) (fun k=>[(1,.str s),(3,.ptr 0 0),(5,.ptr 1 0),(6,.ptr 2 0),(7,.int .i64 ((k:Nat):Int))]) (fun k=>[t.bx,x.bx,.box zC]) (fun k=>k≤t.names.length∧∀ i,i<k→sLess (t.names.getD i []) s=true) (fun k=>t.names.length - k) 0 kq zq ⟨⟨kq,kq,kq,kq,kq,trivial⟩,by simp [BelL,AVal.bel],by simp,kq,by simp [AObj.belO]⟩ ?_
 rintro k ⟨hk,ha⟩
 refine qSeq ?_ ?_
 refine qV 3 ?_ ?_
 refine qy (o_lenmap (l:=t.names) (enc:=AVal.str) kq ty22) ?_ ?_ ?_
 refine qr 2 ?_ ?_
 by_cases hb1:((k:Nat):Int)<((t.names.length:Nat):Int)
 refine qm [13,14] (decide_eq_true hb1) ?_ ?_
 refine qr 3 ?_ ?_
 refine qy (o_ixmap (k:=.i64) (l:=t.names) (enc:=AVal.str) (i:=((k:Nat):Int)) [] kq ty22 ty9 (fun _=>rfl) oq oq) ?_ ?_ ?_
 refine qR 4 [(1,.str s),(3,.ptr 0 0),(5,.ptr 1 0),(6,.ptr 2 0),(7,nI k),(15,.ptr 0 3),(16,.imm (t.names.map AVal.str)),(17,nI k),(18,.pimm [.str (t.names.getD k [])] 0),(19,.str (t.names.getD k [])),(20,.str s),(21,.bool (sLess (t.names.getD k []) s)),(22,.bool (sLess (t.names.getD k []) s))] [t.bx,x.bx,.box zC] ?_ ?_
 by_cases hb2:(sLess (t.names.getD k []) s)=true
 refine qt (hb2) ?_ ?_
 refine qK ?_ ?_
 refine qz [(1,.str s),(3,.ptr 0 0),(5,.ptr 1 0),(6,.ptr 2 0),(7,nI k),(15,.ptr 0 3),(16,.imm (t.names.map AVal.str)),(17,nI k),(18,.pimm [.str (t.names.getD k [])] 0),(19,.str (t.names.getD k [])),(20,.str s),(21,.bool (sLess (t.names.getD k []) s))] ?_ ?_
 refine qB 1 ?_ ?_ ?_
 refine qo ?_ ?_
 refine qr 1 ?_ ?_
 refine qy (o_add (a:=((k:Nat):Int)) (b:=1) kq oq oq) ?_ ?_ ?_
 refine qr 1 ?_ ?_
 refine qe ?_ ?_
 refine AIn_normal ?_
 refine AThen_normal ⟨k+1,?_,?_,⟨⟨kq,kq,kq,kq,kq,trivial⟩,by simp [BelL,AVal.bel],by simp,kq,by simp [AObj.belO]⟩⟩
 · omega
 · refine ⟨by omega,fun i hi=>?_⟩
   rcases Nat.lt_succ_iff_lt_or_eq.1 hi with h|h
   · exact ha i h
   · subst h;assumption
 iterate 11 kernel_rfl
 refine qf (Bool.eq_false_iff.2 hb2) ?_ ?_
 refine wExit 0 kq kq ?_
 refine AThen_exit ?_
 refine AThen_exit ?_
 refine AIn_exit ?_
 refine AThen_normal ?_
 refine qz [(1,.str s),(3,.ptr 0 0),(5,.ptr 1 0),(6,.ptr 2 0),(7,nI k)] ?_ ?_
 refine qW 5 [(1,.str s),(3,.ptr 0 0),(5,.ptr 1 0),(6,.ptr 2 0),(7,nI k),(8,.ptr 3 0)] [t.bx,x.bx,.box zC,.box [.int .i64 5,.str [],.int .i64 (t.n),.full [],.full []]] ?_ ?_
 refine wOwnB 3 3 1 (cs:=[.int .i64 5,.str [],.int .i64 (t.n),.full [],.full []]) [.int .i64 5,.str [],.int .i64 (t.n),.own 4 0 0,.full []] dq kq kq kq ?_
 refine wOwnB 3 4 5 (cs:=[.int .i64 5,.str [],.int .i64 (t.n),.own 4 0 0,.full []]) [.int .i64 5,.str [],.int .i64 (t.n),.own 4 0 0,.own 5 0 0] dq kq kq kq ?_
 refine qZ [(1,.str s),(3,.ptr 0 0),(5,.ptr 1 0),(6,.ptr 2 0),(7,nI k),(8,.ptr 3 0)] [t.bx,x.bx,.box zC,.box [.int .i64 5,.str [],.int .i64 (t.n),.own 4 0 0,.own 5 0 0],.arr 1 (([]:List (List UInt8)).map AVal.str) 0,.arr 5 (([]:List (Ty)).map Ty.enc) 0] ?_ ?_
 refine qSeq ?_ ?_
 refine wDrw cxM kq extThen (dstart ?_)
 refine qu 5 ?_ ?_
 refine qd (o_slcmap (lo:=none) (hi:=(some (.int .i64 ((k:Nat):Int)))) (l:=t.names) (enc:=AVal.str) (x:=0) (y:=((k:Nat):Int)) kq ty22 ty9 (fun _=>rfl) kq kq oq oq oq) ?_ ?_ ?_ ?_
 refine qD (o_appmap (o:=4) (len:=0) (l:=([]:List (List UInt8))) (xs:=((t.names.take k).drop 0)) (enc:=AVal.str) (sz:=1) (fr:=0) (x:=(.imm (((t.names.take k).drop 0).map AVal.str))) kq ty22 ty9 ty22 rfl kq rfl rfl kq ⟨by decide,by kernel_rfl⟩ (fun _=>rfl) (by simp only [List.length_append,List.length_take,List.length_drop,List.length_cons,List.length_nil];omega) (by simp only [List.length_append,List.length_take,List.length_drop,List.length_cons,List.length_nil];omega)) ?_ ?_ ?_ ?_
 refine qu 2 ?_ ?_
 refine qD (o_appmap (o:=4) (len:=((([]:List (List UInt8))++((t.names.take k).drop 0)).length)) (l:=(([]:List (List UInt8))++((t.names.take k).drop 0))) (xs:=[s]) (enc:=AVal.str) (sz:=1) (fr:=0) (x:=(.full [.str s])) kq ty22 ty9 ty22 rfl kq rfl rfl kq ⟨by decide,by kernel_rfl⟩ (fun _=>rfl) (by simp only [List.length_append,List.length_take,List.length_drop,List.length_cons,List.length_nil];omega) (by simp only [List.length_append,List.length_take,List.length_drop,List.length_cons,List.length_nil];omega)) ?_ ?_ ?_ ?_
 refine qu 3 ?_ ?_
 refine qd (o_slcmap (lo:=(some (.int .i64 ((k:Nat):Int)))) (hi:=none) (l:=t.names) (enc:=AVal.str) (x:=((k:Nat):Int)) (y:=((t.names.length:Nat):Int)) kq ty22 ty9 (fun _=>rfl) kq kq oq oq oq) ?_ ?_ ?_ ?_
 refine qD (o_appmap (o:=4) (len:=(((([]:List (List UInt8))++((t.names.take k).drop 0))++[s]).length)) (l:=((([]:List (List UInt8))++((t.names.take k).drop 0))++[s])) (xs:=((t.names.take t.names.length).drop k)) (enc:=AVal.str) (sz:=1) (fr:=0) (x:=(.imm (((t.names.take t.names.length).drop k).map AVal.str))) kq ty22 ty9 ty22 rfl kq rfl rfl kq ⟨by decide,by kernel_rfl⟩ (fun _=>rfl) (by simp only [List.length_append,List.length_take,List.length_drop,List.length_cons,List.length_nil];omega) (by simp only [List.length_append,List.length_take,List.length_drop,List.length_cons,List.length_nil];omega)) ?_ ?_ ?_ ?_
 refine qu 2 ?_ ?_
 refine dend kq ⟨kq,?_⟩
 refine AThen_normal ?_
 refine qZ [(3,.ptr 0 0),(5,.ptr 1 0),(6,.ptr 2 0),(7,nI k),(8,.ptr 3 0)] [t.bx,x.bx,.box zC,.box [.int .i64 5,.str [],.int .i64 (t.n),.own 4 0 (((([]:List (List UInt8))++((t.names.take k).drop 0))++[s])++((t.names.take t.names.length).drop k)).length,.own 5 0 0],.arr 1 ((((([]:List (List UInt8))++((t.names.take k).drop 0))++[s])++((t.names.take t.names.length).drop k)).map AVal.str) 0,.arr 5 (([]:List (Ty)).map Ty.enc) 0] ?_ ?_
 refine qSeq ?_ ?_
 refine wDrw cxM kq extThen (dstart ?_)
 refine qu 5 ?_ ?_
 refine qd (o_slcmap (lo:=none) (hi:=(some (.int .i64 ((k:Nat):Int)))) (l:=t.kids) (enc:=Ty.enc) (x:=0) (y:=((k:Nat):Int)) kq ty23 ty25 ty_size kq kq oq oq oq) ?_ ?_ ?_ ?_
 refine qD (o_appmap (o:=5) (len:=0) (l:=([]:List (Ty))) (xs:=((t.kids.take k).drop 0)) (enc:=Ty.enc) (sz:=5) (fr:=0) (x:=(.imm (((t.kids.take k).drop 0).map Ty.enc))) kq ty23 ty25 ty23 rfl kq rfl rfl kq ⟨by decide,by kernel_rfl⟩ ty_ok (by simp only [List.length_append,List.length_take,List.length_drop,List.length_cons,List.length_nil];omega) (by simp only [List.length_append,List.length_take,List.length_drop,List.length_cons,List.length_nil];omega)) ?_ ?_ ?_ ?_
 refine qu 2 ?_ ?_
 refine qD (o_appmap (o:=5) (len:=((([]:List (Ty))++((t.kids.take k).drop 0)).length)) (l:=(([]:List (Ty))++((t.kids.take k).drop 0))) (xs:=[x]) (enc:=Ty.enc) (sz:=5) (fr:=0) (x:=(.full [.agg [.int .i64 (x.kind),.str x.name,.int .i64 (x.n),.imm (x.names.map AVal.str),.imm (x.kids.map Ty.enc)]])) kq ty23 ty25 ty23 rfl kq rfl rfl (Eq.trans (b:=some [Ty.v x]) kq (by simp [Ty.enc_v])) ⟨by decide,by kernel_rfl⟩ ty_ok (by simp only [List.length_append,List.length_take,List.length_drop,List.length_cons,List.length_nil];omega) (by simp only [List.length_append,List.length_take,List.length_drop,List.length_cons,List.length_nil];omega)) ?_ ?_ ?_ ?_
 refine qu 3 ?_ ?_
 refine qd (o_slcmap (lo:=(some (.int .i64 ((k:Nat):Int)))) (hi:=none) (l:=t.kids) (enc:=Ty.enc) (x:=((k:Nat):Int)) (y:=((t.kids.length:Nat):Int)) kq ty23 ty25 ty_size kq kq oq oq oq) ?_ ?_ ?_ ?_
 refine qD (o_appmap (o:=5) (len:=(((([]:List (Ty))++((t.kids.take k).drop 0))++[x]).length)) (l:=((([]:List (Ty))++((t.kids.take k).drop 0))++[x])) (xs:=((t.kids.take t.kids.length).drop k)) (enc:=Ty.enc) (sz:=5) (fr:=0) (x:=(.imm (((t.kids.take t.kids.length).drop k).map Ty.enc))) kq ty23 ty25 ty23 rfl kq rfl rfl kq ⟨by decide,by kernel_rfl⟩ ty_ok (by simp only [List.length_append,List.length_take,List.length_drop,List.length_cons,List.length_nil];omega) (by simp only [List.length_append,List.length_take,List.length_drop,List.length_cons,List.length_nil];omega)) ?_ ?_ ?_ ?_
 refine qu 2 ?_ ?_
 refine dend kq ⟨kq,?_⟩
 refine AThen_normal ?_
 refine qZ [(6,.ptr 2 0),(8,.ptr 3 0)] [t.bx,x.bx,.box zC,.box [.int .i64 5,.str [],.int .i64 (t.n),.own 4 0 (((([]:List (List UInt8))++((t.names.take k).drop 0))++[s])++((t.names.take t.names.length).drop k)).length,.own 5 0 (((([]:List (Ty))++((t.kids.take k).drop 0))++[x])++((t.kids.take t.kids.length).drop k)).length],.arr 1 ((((([]:List (List UInt8))++((t.names.take k).drop 0))++[s])++((t.names.take t.names.length).drop k)).map AVal.str) 0,.arr 5 ((((([]:List (Ty))++((t.kids.take k).drop 0))++[x])++((t.kids.take t.kids.length).drop k)).map Ty.enc) 0] ?_ ?_
 refine wFrzC 3 3 4 (cs:=[.int .i64 5,.str [],.int .i64 (t.n),.own 4 0 (((([]:List (List UInt8))++((t.names.take k).drop 0))++[s])++((t.names.take t.names.length).drop k)).length,.own 5 0 (((([]:List (Ty))++((t.kids.take k).drop 0))++[x])++((t.kids.take t.kids.length).drop k)).length]) (es:=((((([]:List (List UInt8))++((t.names.take k).drop 0))++[s])++((t.names.take t.names.length).drop k)).map AVal.str)) (off:=0) (len:=((((([]:List (List UInt8))++((t.names.take k).drop 0))++[s])++((t.names.take t.names.length).drop k)).length)) (sz:=1) (fr:=0) [.int .i64 5,.str [],.int .i64 (t.n),.imm ((((([]:List (List UInt8))++((t.names.take k).drop 0))++[s])++((t.names.take t.names.length).drop k)).map AVal.str),.own 5 0 (((([]:List (Ty))++((t.kids.take k).drop 0))++[x])++((t.kids.take t.kids.length).drop k)).length] ((((([]:List (List UInt8))++((t.names.take k).drop 0))++[s])++((t.names.take t.names.length).drop k)).map AVal.str) dq kq kq kq zq kq kq ?_
 refine qZ [(6,.ptr 2 0),(8,.ptr 3 0)] [t.bx,x.bx,.box zC,.box [.int .i64 5,.str [],.int .i64 (t.n),.imm ((((([]:List (List UInt8))++((t.names.take k).drop 0))++[s])++((t.names.take t.names.length).drop k)).map AVal.str),.own 5 0 (((([]:List (Ty))++((t.kids.take k).drop 0))++[x])++((t.kids.take t.kids.length).drop k)).length],.arr 1 ((((([]:List (List UInt8))++((t.names.take k).drop 0))++[s])++((t.names.take t.names.length).drop k)).map AVal.str) ((((([]:List (List UInt8))++((t.names.take k).drop 0))++[s])++((t.names.take t.names.length).drop k)).map AVal.str).length,.arr 5 ((((([]:List (Ty))++((t.kids.take k).drop 0))++[x])++((t.kids.take t.kids.length).drop k)).map Ty.enc) 0] ?_ ?_
 refine qW 2 [(6,.ptr 2 0)] [t.bx,x.bx,.box [.int .i64 5,.str [],.int .i64 (t.n),.imm ((((([]:List (List UInt8))++((t.names.take k).drop 0))++[s])++((t.names.take t.names.length).drop k)).map AVal.str),.own 5 0 (((([]:List (Ty))++((t.kids.take k).drop 0))++[x])++((t.kids.take t.kids.length).drop k)).length],.box [.int .i64 5,.str [],.int .i64 (t.n),.imm ((((([]:List (List UInt8))++((t.names.take k).drop 0))++[s])++((t.names.take t.names.length).drop k)).map AVal.str),.own 5 0 (((([]:List (Ty))++((t.kids.take k).drop 0))++[x])++((t.kids.take t.kids.length).drop k)).length],.arr 1 ((((([]:List (List UInt8))++((t.names.take k).drop 0))++[s])++((t.names.take t.names.length).drop k)).map AVal.str) ((((([]:List (List UInt8))++((t.names.take k).drop 0))++[s])++((t.names.take t.names.length).drop k)).map AVal.str).length,.arr 5 ((((([]:List (Ty))++((t.kids.take k).drop 0))++[x])++((t.kids.take t.kids.length).drop k)).map Ty.enc) 0] ?_ ?_
 refine wRen [5,2] [(6,.ptr 1 0)] [.arr 5 ((((([]:List (Ty))++((t.kids.take k).drop 0))++[x])++((t.kids.take t.kids.length).drop k)).map Ty.enc) 0,.box [.int .i64 5,.str [],.int .i64 (t.n),.imm ((((([]:List (List UInt8))++((t.names.take k).drop 0))++[s])++((t.names.take t.names.length).drop k)).map AVal.str),.own 0 0 (((([]:List (Ty))++((t.kids.take k).drop 0))++[x])++((t.kids.take t.kids.length).drop k)).length]] dq (by simp [-List.map_append,-List.map_take,-List.map_drop,-List.append_assoc,AVal.refs,refsL,AObj.refs,AObj.isIter,objOk,Abs.renT,keepH,renO,AObj.ren,AVal.ren,renL,List.idxOf_cons]) (by simp [-List.map_append,-List.map_take,-List.map_drop,-List.append_assoc,AVal.refs,refsL,AObj.refs,AObj.isIter,objOk,Abs.renT,keepH,renO,AObj.ren,AVal.ren,renL,List.idxOf_cons]) (by simp [-List.map_append,-List.map_take,-List.map_drop,-List.append_assoc,AVal.refs,refsL,AObj.refs,AObj.isIter,objOk,Abs.renT,keepH,renO,AObj.ren,AVal.ren,renL,List.idxOf_cons]) (by simp [-List.map_append,-List.map_take,-List.map_drop,-List.append_assoc,AVal.refs,refsL,AObj.refs,AObj.isIter,objOk,Abs.renT,keepH,renO,AObj.ren,AVal.ren,renL,List.idxOf_cons]) ?_
 refine qZ [(6,.ptr 1 0)] [.arr 5 ((((([]:List (Ty))++((t.kids.take k).drop 0))++[x])++((t.kids.take t.kids.length).drop k)).map Ty.enc) 0,.box [.int .i64 5,.str [],.int .i64 (t.n),.imm ((((([]:List (List UInt8))++((t.names.take k).drop 0))++[s])++((t.names.take t.names.length).drop k)).map AVal.str),.own 0 0 (((([]:List (Ty))++((t.kids.take k).drop 0))++[x])++((t.kids.take t.kids.length).drop k)).length]] ?_ ?_
 refine wRet kq ?_
 refine leafR (l:=[.agg [.int .i64 5,.str [],.int .i64 (t.n),.imm ((((([]:List (List UInt8))++((t.names.take k).drop 0))++[s])++((t.names.take t.names.length).drop k)).map AVal.str),.own 0 0 (((([]:List (Ty))++((t.kids.take k).drop 0))++[x])++((t.kids.take t.kids.length).drop k)).length]]) 1 [.arr 5 ((((([]:List (Ty))++((t.kids.take k).drop 0))++[x])++((t.kids.take t.kids.length).drop k)).map Ty.enc) 0] (.inr rfl) kq (Nat.zero_le _) kq (by simp [awrap,-List.map_append,-List.map_take,-List.map_drop,-List.append_assoc]) (by simp [AObj.belO,-List.map_append,-List.map_take,-List.map_drop,-List.append_assoc]) ?_
 rotate_left
 iterate 54 kernel_rfl
 refine qm [13,14] (decide_eq_false hb1) ?_ ?_
 refine qR 8 [(1,.str s),(3,.ptr 0 0),(5,.ptr 1 0),(6,.ptr 2 0),(7,nI k),(15,.tup []),(16,.tup []),(17,.tup []),(18,.tup []),(19,.tup []),(20,.tup []),(21,.tup []),(22,.bool false)] [t.bx,x.bx,.box zC] ?_ ?_
 refine wIfF kq kq ?_
 refine wExit 0 kq kq ?_
 refine AThen_exit ?_
 refine AThen_exit ?_
 refine AIn_exit ?_
 refine AThen_normal ?_
 refine qz [(1,.str s),(3,.ptr 0 0),(5,.ptr 1 0),(6,.ptr 2 0),(7,nI k)] ?_ ?_
 refine qW 5 [(1,.str s),(3,.ptr 0 0),(5,.ptr 1 0),(6,.ptr 2 0),(7,nI k),(8,.ptr 3 0)] [t.bx,x.bx,.box zC,.box [.int .i64 5,.str [],.int .i64 (t.n),.full [],.full []]] ?_ ?_
 refine wOwnB 3 3 1 (cs:=[.int .i64 5,.str [],.int .i64 (t.n),.full [],.full []]) [.int .i64 5,.str [],.int .i64 (t.n),.own 4 0 0,.full []] dq kq kq kq ?_
 refine wOwnB 3 4 5 (cs:=[.int .i64 5,.str [],.int .i64 (t.n),.own 4 0 0,.full []]) [.int .i64 5,.str [],.int .i64 (t.n),.own 4 0 0,.own 5 0 0] dq kq kq kq ?_
 refine qZ [(1,.str s),(3,.ptr 0 0),(5,.ptr 1 0),(6,.ptr 2 0),(7,nI k),(8,.ptr 3 0)] [t.bx,x.bx,.box zC,.box [.int .i64 5,.str [],.int .i64 (t.n),.own 4 0 0,.own 5 0 0],.arr 1 (([]:List (List UInt8)).map AVal.str) 0,.arr 5 (([]:List (Ty)).map Ty.enc) 0] ?_ ?_
 refine qSeq ?_ ?_
 refine wDrw cxM kq extThen (dstart ?_)
 refine qu 5 ?_ ?_
 refine qd (o_slcmap (lo:=none) (hi:=(some (.int .i64 ((k:Nat):Int)))) (l:=t.names) (enc:=AVal.str) (x:=0) (y:=((k:Nat):Int)) kq ty22 ty9 (fun _=>rfl) kq kq oq oq oq) ?_ ?_ ?_ ?_
 refine qD (o_appmap (o:=4) (len:=0) (l:=([]:List (List UInt8))) (xs:=((t.names.take k).drop 0)) (enc:=AVal.str) (sz:=1) (fr:=0) (x:=(.imm (((t.names.take k).drop 0).map AVal.str))) kq ty22 ty9 ty22 rfl kq rfl rfl kq ⟨by decide,by kernel_rfl⟩ (fun _=>rfl) (by simp only [List.length_append,List.length_take,List.length_drop,List.length_cons,List.length_nil];omega) (by simp only [List.length_append,List.length_take,List.length_drop,List.length_cons,List.length_nil];omega)) ?_ ?_ ?_ ?_
 refine qu 2 ?_ ?_
 refine qD (o_appmap (o:=4) (len:=((([]:List (List UInt8))++((t.names.take k).drop 0)).length)) (l:=(([]:List (List UInt8))++((t.names.take k).drop 0))) (xs:=[s]) (enc:=AVal.str) (sz:=1) (fr:=0) (x:=(.full [.str s])) kq ty22 ty9 ty22 rfl kq rfl rfl kq ⟨by decide,by kernel_rfl⟩ (fun _=>rfl) (by simp only [List.length_append,List.length_take,List.length_drop,List.length_cons,List.length_nil];omega) (by simp only [List.length_append,List.length_take,List.length_drop,List.length_cons,List.length_nil];omega)) ?_ ?_ ?_ ?_
 refine qu 3 ?_ ?_
 refine qd (o_slcmap (lo:=(some (.int .i64 ((k:Nat):Int)))) (hi:=none) (l:=t.names) (enc:=AVal.str) (x:=((k:Nat):Int)) (y:=((t.names.length:Nat):Int)) kq ty22 ty9 (fun _=>rfl) kq kq oq oq oq) ?_ ?_ ?_ ?_
 refine qD (o_appmap (o:=4) (len:=(((([]:List (List UInt8))++((t.names.take k).drop 0))++[s]).length)) (l:=((([]:List (List UInt8))++((t.names.take k).drop 0))++[s])) (xs:=((t.names.take t.names.length).drop k)) (enc:=AVal.str) (sz:=1) (fr:=0) (x:=(.imm (((t.names.take t.names.length).drop k).map AVal.str))) kq ty22 ty9 ty22 rfl kq rfl rfl kq ⟨by decide,by kernel_rfl⟩ (fun _=>rfl) (by simp only [List.length_append,List.length_take,List.length_drop,List.length_cons,List.length_nil];omega) (by simp only [List.length_append,List.length_take,List.length_drop,List.length_cons,List.length_nil];omega)) ?_ ?_ ?_ ?_
 refine qu 2 ?_ ?_
 refine dend kq ⟨kq,?_⟩
 refine AThen_normal ?_
 refine qZ [(3,.ptr 0 0),(5,.ptr 1 0),(6,.ptr 2 0),(7,nI k),(8,.ptr 3 0)] [t.bx,x.bx,.box zC,.box [.int .i64 5,.str [],.int .i64 (t.n),.own 4 0 (((([]:List (List UInt8))++((t.names.take k).drop 0))++[s])++((t.names.take t.names.length).drop k)).length,.own 5 0 0],.arr 1 ((((([]:List (List UInt8))++((t.names.take k).drop 0))++[s])++((t.names.take t.names.length).drop k)).map AVal.str) 0,.arr 5 (([]:List (Ty)).map Ty.enc) 0] ?_ ?_
 refine qSeq ?_ ?_
 refine wDrw cxM kq extThen (dstart ?_)
 refine qu 5 ?_ ?_
 refine qd (o_slcmap (lo:=none) (hi:=(some (.int .i64 ((k:Nat):Int)))) (l:=t.kids) (enc:=Ty.enc) (x:=0) (y:=((k:Nat):Int)) kq ty23 ty25 ty_size kq kq oq oq oq) ?_ ?_ ?_ ?_
 refine qD (o_appmap (o:=5) (len:=0) (l:=([]:List (Ty))) (xs:=((t.kids.take k).drop 0)) (enc:=Ty.enc) (sz:=5) (fr:=0) (x:=(.imm (((t.kids.take k).drop 0).map Ty.enc))) kq ty23 ty25 ty23 rfl kq rfl rfl kq ⟨by decide,by kernel_rfl⟩ ty_ok (by simp only [List.length_append,List.length_take,List.length_drop,List.length_cons,List.length_nil];omega) (by simp only [List.length_append,List.length_take,List.length_drop,List.length_cons,List.length_nil];omega)) ?_ ?_ ?_ ?_
 refine qu 2 ?_ ?_
 refine qD (o_appmap (o:=5) (len:=((([]:List (Ty))++((t.kids.take k).drop 0)).length)) (l:=(([]:List (Ty))++((t.kids.take k).drop 0))) (xs:=[x]) (enc:=Ty.enc) (sz:=5) (fr:=0) (x:=(.full [.agg [.int .i64 (x.kind),.str x.name,.int .i64 (x.n),.imm (x.names.map AVal.str),.imm (x.kids.map Ty.enc)]])) kq ty23 ty25 ty23 rfl kq rfl rfl (Eq.trans (b:=some [Ty.v x]) kq (by simp [Ty.enc_v])) ⟨by decide,by kernel_rfl⟩ ty_ok (by simp only [List.length_append,List.length_take,List.length_drop,List.length_cons,List.length_nil];omega) (by simp only [List.length_append,List.length_take,List.length_drop,List.length_cons,List.length_nil];omega)) ?_ ?_ ?_ ?_
 refine qu 3 ?_ ?_
 refine qd (o_slcmap (lo:=(some (.int .i64 ((k:Nat):Int)))) (hi:=none) (l:=t.kids) (enc:=Ty.enc) (x:=((k:Nat):Int)) (y:=((t.kids.length:Nat):Int)) kq ty23 ty25 ty_size kq kq oq oq oq) ?_ ?_ ?_ ?_
 refine qD (o_appmap (o:=5) (len:=(((([]:List (Ty))++((t.kids.take k).drop 0))++[x]).length)) (l:=((([]:List (Ty))++((t.kids.take k).drop 0))++[x])) (xs:=((t.kids.take t.kids.length).drop k)) (enc:=Ty.enc) (sz:=5) (fr:=0) (x:=(.imm (((t.kids.take t.kids.length).drop k).map Ty.enc))) kq ty23 ty25 ty23 rfl kq rfl rfl kq ⟨by decide,by kernel_rfl⟩ ty_ok (by simp only [List.length_append,List.length_take,List.length_drop,List.length_cons,List.length_nil];omega) (by simp only [List.length_append,List.length_take,List.length_drop,List.length_cons,List.length_nil];omega)) ?_ ?_ ?_ ?_
 refine qu 2 ?_ ?_
 refine dend kq ⟨kq,?_⟩
 refine AThen_normal ?_
 refine qZ [(6,.ptr 2 0),(8,.ptr 3 0)] [t.bx,x.bx,.box zC,.box [.int .i64 5,.str [],.int .i64 (t.n),.own 4 0 (((([]:List (List UInt8))++((t.names.take k).drop 0))++[s])++((t.names.take t.names.length).drop k)).length,.own 5 0 (((([]:List (Ty))++((t.kids.take k).drop 0))++[x])++((t.kids.take t.kids.length).drop k)).length],.arr 1 ((((([]:List (List UInt8))++((t.names.take k).drop 0))++[s])++((t.names.take t.names.length).drop k)).map AVal.str) 0,.arr 5 ((((([]:List (Ty))++((t.kids.take k).drop 0))++[x])++((t.kids.take t.kids.length).drop k)).map Ty.enc) 0] ?_ ?_
 refine wFrzC 3 3 4 (cs:=[.int .i64 5,.str [],.int .i64 (t.n),.own 4 0 (((([]:List (List UInt8))++((t.names.take k).drop 0))++[s])++((t.names.take t.names.length).drop k)).length,.own 5 0 (((([]:List (Ty))++((t.kids.take k).drop 0))++[x])++((t.kids.take t.kids.length).drop k)).length]) (es:=((((([]:List (List UInt8))++((t.names.take k).drop 0))++[s])++((t.names.take t.names.length).drop k)).map AVal.str)) (off:=0) (len:=((((([]:List (List UInt8))++((t.names.take k).drop 0))++[s])++((t.names.take t.names.length).drop k)).length)) (sz:=1) (fr:=0) [.int .i64 5,.str [],.int .i64 (t.n),.imm ((((([]:List (List UInt8))++((t.names.take k).drop 0))++[s])++((t.names.take t.names.length).drop k)).map AVal.str),.own 5 0 (((([]:List (Ty))++((t.kids.take k).drop 0))++[x])++((t.kids.take t.kids.length).drop k)).length] ((((([]:List (List UInt8))++((t.names.take k).drop 0))++[s])++((t.names.take t.names.length).drop k)).map AVal.str) dq kq kq kq zq kq kq ?_
 refine qZ [(6,.ptr 2 0),(8,.ptr 3 0)] [t.bx,x.bx,.box zC,.box [.int .i64 5,.str [],.int .i64 (t.n),.imm ((((([]:List (List UInt8))++((t.names.take k).drop 0))++[s])++((t.names.take t.names.length).drop k)).map AVal.str),.own 5 0 (((([]:List (Ty))++((t.kids.take k).drop 0))++[x])++((t.kids.take t.kids.length).drop k)).length],.arr 1 ((((([]:List (List UInt8))++((t.names.take k).drop 0))++[s])++((t.names.take t.names.length).drop k)).map AVal.str) ((((([]:List (List UInt8))++((t.names.take k).drop 0))++[s])++((t.names.take t.names.length).drop k)).map AVal.str).length,.arr 5 ((((([]:List (Ty))++((t.kids.take k).drop 0))++[x])++((t.kids.take t.kids.length).drop k)).map Ty.enc) 0] ?_ ?_
 refine qW 2 [(6,.ptr 2 0)] [t.bx,x.bx,.box [.int .i64 5,.str [],.int .i64 (t.n),.imm ((((([]:List (List UInt8))++((t.names.take k).drop 0))++[s])++((t.names.take t.names.length).drop k)).map AVal.str),.own 5 0 (((([]:List (Ty))++((t.kids.take k).drop 0))++[x])++((t.kids.take t.kids.length).drop k)).length],.box [.int .i64 5,.str [],.int .i64 (t.n),.imm ((((([]:List (List UInt8))++((t.names.take k).drop 0))++[s])++((t.names.take t.names.length).drop k)).map AVal.str),.own 5 0 (((([]:List (Ty))++((t.kids.take k).drop 0))++[x])++((t.kids.take t.kids.length).drop k)).length],.arr 1 ((((([]:List (List UInt8))++((t.names.take k).drop 0))++[s])++((t.names.take t.names.length).drop k)).map AVal.str) ((((([]:List (List UInt8))++((t.names.take k).drop 0))++[s])++((t.names.take t.names.length).drop k)).map AVal.str).length,.arr 5 ((((([]:List (Ty))++((t.kids.take k).drop 0))++[x])++((t.kids.take t.kids.length).drop k)).map Ty.enc) 0] ?_ ?_
 refine wRen [5,2] [(6,.ptr 1 0)] [.arr 5 ((((([]:List (Ty))++((t.kids.take k).drop 0))++[x])++((t.kids.take t.kids.length).drop k)).map Ty.enc) 0,.box [.int .i64 5,.str [],.int .i64 (t.n),.imm ((((([]:List (List UInt8))++((t.names.take k).drop 0))++[s])++((t.names.take t.names.length).drop k)).map AVal.str),.own 0 0 (((([]:List (Ty))++((t.kids.take k).drop 0))++[x])++((t.kids.take t.kids.length).drop k)).length]] dq (by simp [-List.map_append,-List.map_take,-List.map_drop,-List.append_assoc,AVal.refs,refsL,AObj.refs,AObj.isIter,objOk,Abs.renT,keepH,renO,AObj.ren,AVal.ren,renL,List.idxOf_cons]) (by simp [-List.map_append,-List.map_take,-List.map_drop,-List.append_assoc,AVal.refs,refsL,AObj.refs,AObj.isIter,objOk,Abs.renT,keepH,renO,AObj.ren,AVal.ren,renL,List.idxOf_cons]) (by simp [-List.map_append,-List.map_take,-List.map_drop,-List.append_assoc,AVal.refs,refsL,AObj.refs,AObj.isIter,objOk,Abs.renT,keepH,renO,AObj.ren,AVal.ren,renL,List.idxOf_cons]) (by simp [-List.map_append,-List.map_take,-List.map_drop,-List.append_assoc,AVal.refs,refsL,AObj.refs,AObj.isIter,objOk,Abs.renT,keepH,renO,AObj.ren,AVal.ren,renL,List.idxOf_cons]) ?_
 refine qZ [(6,.ptr 1 0)] [.arr 5 ((((([]:List (Ty))++((t.kids.take k).drop 0))++[x])++((t.kids.take t.kids.length).drop k)).map Ty.enc) 0,.box [.int .i64 5,.str [],.int .i64 (t.n),.imm ((((([]:List (List UInt8))++((t.names.take k).drop 0))++[s])++((t.names.take t.names.length).drop k)).map AVal.str),.own 0 0 (((([]:List (Ty))++((t.kids.take k).drop 0))++[x])++((t.kids.take t.kids.length).drop k)).length]] ?_ ?_
 refine wRet kq ?_
 refine leafR (l:=[.agg [.int .i64 5,.str [],.int .i64 (t.n),.imm ((((([]:List (List UInt8))++((t.names.take k).drop 0))++[s])++((t.names.take t.names.length).drop k)).map AVal.str),.own 0 0 (((([]:List (Ty))++((t.kids.take k).drop 0))++[x])++((t.kids.take t.kids.length).drop k)).length]]) 1 [.arr 5 ((((([]:List (Ty))++((t.kids.take k).drop 0))++[x])++((t.kids.take t.kids.length).drop k)).map Ty.enc) 0] (.inr rfl) kq (Nat.zero_le _) kq (by simp [awrap,-List.map_append,-List.map_take,-List.map_drop,-List.append_assoc]) (by simp [AObj.belO,-List.map_append,-List.map_take,-List.map_drop,-List.append_assoc]) ?_
 rotate_left
 iterate 61 kernel_rfl
 all_goals
  have hput:putAt t.names s=k:=putAt_stop _ _ _ ha oq (fun hlt=>by first|exact Bool.eq_false_iff.2 aq|(exfalso;omega))
  refine ⟨?_,?_⟩
  · rw [recV_put];simp [putN,putK,hput,awrap]
  · rw [recH_put];simp [putN,putK,hput]
end Go.Proofs.YtdikgijfekfaoaaGreatDoor
namespace Go.Proofs.YtdikgijfekfaoaaGreatDoor
open Go.Proofs.YtdikgijfekfaoaaGreatDoor.Abs
set_option maxRecDepth 20000
set_option maxHeartbeats 4000000
def nms:List (List UInt8):=[[97],[98],[99],[105,100]]
theorem names2_spec:CallsP cx 43 [] (.imm (nms.map .str)):=names_spec
theorem nms_len:nms.length=4:=rfl
def baseT (k:Int):Ty:=if k=3 then .mk 3 [67,111,108,111,114] 0 [] [] else if k=4 then .mk 3 [83,104,97,112,101] 0 [] [] else .mk k [] 0 [] []
def recF (kid:Nat→Ty):Nat→Nat→Int→Ty→Ty
  | 0,_,_,o=>o
  | f+1,i,w,o=>recF kid f (i+1) (w.tdiv 2) (if w.tmod 2=1 then putT o (nms.getD i []) (kid i) else o)
def rec0:Ty:=.mk 5 [] 0 [] []
def closedT (l:List Int):Nat→Nat→Ty
  | 0,q=>baseT ((pickI l q 8).tmod 5)
  | d+1,q=>if pickI l q 8<5 then baseT (pickI l q 8) else if pickI l q 8=5 then .mk 4 [] 0 [] [closedT l d (q+1)]
    else recF (fun i=>closedT l d (q+2+3 * i)) 4 0 (pickI l (q+1) 16) rec0
theorem szS_app (a b:List (List UInt8)):szS (a++b)=szS a+szS b:=by
  induction a with
  | nil=>simp [szS]
  | cons x a ih=>simp [szS,ih];omega
theorem szL_app (a b:List Ty):Ty.szL (a++b)=Ty.szL a+Ty.szL b:=by
  induction a with
  | nil=>simp [Ty.szL]
  | cons x a ih=>simp [Ty.szL,ih];omega
theorem putT_sz (t:Ty) (s:List UInt8) (x:Ty):(putT t s x).sz≤t.sz+s.length+1+x.sz+1:=by
  have e:=sz_eq t
  have h1:szS t.names=szS (t.names.take (putAt t.names s))+szS (t.names.drop (putAt t.names s)):=by rw [← szS_app,List.take_append_drop]
  have h2:Ty.szL t.kids=Ty.szL (t.kids.take (putAt t.names s))+Ty.szL (t.kids.drop (putAt t.names s)):=by rw [← szL_app,List.take_append_drop]
  simp only [putT,putN,putK,Ty.sz,szS_app,szL_app,szS,Ty.szL,List.length_nil]
  omega
theorem putT_nk (t:Ty) (s:List UInt8) (x:Ty) (h:t.names.length=t.kids.length):(putT t s x).names.length=(putT t s x).kids.length:=by
  show (putN t s).length=(putK t s x).length
  simp only [putN,putK,List.length_append,List.length_take,List.length_drop,h,List.length_cons,List.length_nil]
def bd:Nat→Nat
  | 0=>20
  | n+1=>4 * (bd n+10)+20
theorem nms_at (i:Nat):(nms.getD i []).length≤2:=by
  match i with
  | 0=>decide
  | 1=>decide
  | 2=>decide
  | 3=>decide
  | i+4=>simp [nms]
theorem recF_sz (kid:Nat→Ty) (b:Nat) (hk:∀ i,(kid i).sz≤b):∀ f i w o,(recF kid f i w o).sz≤o.sz+f * (b+4)
  | 0,i,w,o=>by simp [recF]
  | f+1,i,w,o=>by
    have:=recF_sz kid b hk f (i+1) (w.tdiv 2) (if w.tmod 2=1 then putT o (nms.getD i []) (kid i) else o)
    simp only [recF]
    refine Nat.le_trans this ?_
    have e:(f+1) * (b+4)=f * (b+4)+(b+4):=Nat.succ_mul _ _
    rw [e]
    split
    · have h1:=putT_sz o (nms.getD i []) (kid i)
      have h2:=hk i
      have h3:=nms_at i
      omega
    · omega
theorem baseT_sz (k:Int):(baseT k).sz≤20:=by
  unfold baseT;split
  · decide
  · split
    · decide
    · simp [Ty.sz,szS,Ty.szL]
theorem closedT_sz (l:List Int):∀ d q,(closedT l d q).sz≤bd d
  | 0,q=>baseT_sz _
  | d+1,q=>by
    have ih:=closedT_sz l d
    have hp:20≤bd (d+1):=by simp only [bd];omega
    unfold closedT
    split
    · exact Nat.le_trans (baseT_sz _) hp
    · split
      · simp only [Ty.sz,szS,Ty.szL,bd,List.length_nil];have:=ih (q+1);omega
      · have:=recF_sz (fun i=>closedT l d (q+2+3 * i)) (bd d) (fun i=>ih _) 4 0 (pickI l (q+1) 16) rec0
        have e:rec0.sz=1:=rfl
        simp only [bd];omega
theorem closedT_small (l:List Int) (d q:Nat) (h:d≤2):(closedT l d q).sz≤10000:=by
  refine Nat.le_trans (closedT_sz l d q) ?_
  match d,h with
  | 0,_=>decide
  | 1,_=>decide
  | 2,_=>decide
def clQ (t:Ty) (v:AVal) (h:AHeap):Prop:=(t.kind=5∧v=recV t∧h=recH t)∨(¬ t.kind=5∧v.frz h=t.v)
theorem recV_frz (t:Ty):(recV t).frz (recH t)=t.v:=by simp [recV,recH,AVal.frz,frzL,Ty.v]
theorem clQ_frz {t:Ty} {v:AVal} {h:AHeap} (hq:clQ t v h):v.frz h=t.v:=by
  rcases hq with ⟨_,rfl,rfl⟩|⟨_,h1⟩
  · exact recV_frz t
  · exact h1
theorem closed_P {l:List Int} {q:Nat} {d:Int} {t:Ty} (h:CallsA cx 13 [.imm (l.map (.int .i64)),.int .i64 (q:Nat),.int .i64 d] [] (clQ t)):CallsP cx 13 [.imm (l.map (.int .i64)),.int .i64 (q:Nat),.int .i64 d] t.v:=CallsP_post h (fun _ _=>clQ_frz) zq
theorem recF_step (kid:Nat→Ty) (i:Nat) (w:Int) (o:Ty) (h:i<4):recF kid (4 - i) i w o=recF kid (4 - (i+1)) (i+1) (w.tdiv 2) (if w.tmod 2=1 then putT o (nms.getD i []) (kid i) else o):=by
  rw [show 4 - i=(4 - (i+1))+1 by omega,recF]
theorem osz_step {a i:Nat} (h:a≤1+i * 20000):a≤1+(i+1) * 20000:=Nat.le_trans h (Nat.add_le_add_left (Nat.mul_le_mul_right _ (Nat.le_succ i)) 1)
theorem tdiv_bd {w:Int} (h:0≤w) (h1:w<16):0≤w.tdiv 2∧w.tdiv 2<16:=by
  rw [Int.tdiv_eq_ediv_of_nonneg h];omega
theorem toNat_s {d:Int} (h:0<d):d.toNat=(d - 1).toNat+1:=by omega
theorem closedT_0 {l:List Int} {q:Nat} {d:Int} (h:d=0):closedT l d.toNat q=baseT ((pickI l q 8).tmod 5):=by rw [h];rfl
theorem closedT_b {l:List Int} {q:Nat} {d:Int} (h:0<d) (h5:pickI l q 8<5):closedT l d.toNat q=baseT (pickI l q 8):=by rw [toNat_s h,closedT,if_pos h5]
theorem closedT_5 {l:List Int} {q:Nat} {d:Int} (h:0<d) (h5:pickI l q 8=5):closedT l d.toNat q=.mk 4 [] 0 [] [closedT l (d - 1).toNat (q+1)]:=by rw [toNat_s h,closedT,if_neg oq,if_pos h5]
theorem closedT_r {l:List Int} {q:Nat} {d:Int} (h:0<d) (h5:5<pickI l q 8):closedT l d.toNat q=recF (fun i=>closedT l (d - 1).toNat (q+2+3 * i)) 4 0 (pickI l (q+1) 16) rec0:=by rw [toNat_s h,closedT,if_neg oq,if_neg oq]
theorem clQ_base {t:Ty} {v:AVal} {h:AHeap} {k:Int} (e:t=baseT k) (hk:0≤k∧k<5) (hv:v.frz h=(baseT k).v):clQ t v h:=by
  subst e
  refine .inr ⟨?_,hv⟩
  unfold baseT;split
  · simp [Ty.kind]
  · split
    · simp [Ty.kind]
    · simp only [Ty.kind];omega
noncomputable def c13:Code:=bodyOf Tryz.f13
theorem closed_raw3 (l:List Int) (q:Nat) (d:Int) (hl:i64L l) (hq:(q:Int)+100 * d≤1000000) (hd:0≤d∧d≤3):CallsA cx 13 [.imm (l.map (AVal.int .i64)),.int .i64 ((q:Nat):Int),.int .i64 (d)] [] (clQ (closedT l d.toNat q)):=by
 induction hN:d.toNat using Nat.strongRecOn generalizing q d with|_ N ih =>
 rw [← hN]
 have ihP:∀ q':Nat,0<d→(q':Int)+100 * (d - 1)≤1000000→CallsP cx 13 [.imm (l.map (.int .i64)),.int .i64 (q':Nat),.int .i64 (d - 1)] (closedT l (d - 1).toNat q').v:=fun q' h1 h2=>closed_P (ih _ oq q' (d - 1) h2 oq rfl)
 have hnm:=nms_len
 have hpk:=pickI_bd l q 8 dq
 have htm:=tmod_bd hpk.1 (show (0:Int)<5 by decide)
 have hsm:=fun q=>closedT_small l (d - 1).toNat q oq
 refine func_raw (cx:=cx) 71 0 [(ResultVar.cell 6 25)] Tryz.func13 rfl rfl rfl rfl rfl zq ?_
 show wpA cx 71 0 (at_ c13 []) _ _ _
 refine qZ [(0,.imm (l.map (AVal.int .i64))),(1,nI q),(2,.int .i64 (d))] [] ?_ ?_
 refine qW 1 [(0,.imm (l.map (AVal.int .i64))),(1,nI q),(2,.int .i64 (d)),(6,.ptr 0 0)] [.box zC] ?_ ?_
 refine qV 2 ?_ ?_
 refine vcallP (args:=[.imm (l.map (AVal.int .i64)),.int .i64 ((q:Nat):Int),.int .i64 8]) kq kq kq kq (pick_spec l q 8 oq oq) (by simp [Ty.v,frzL_app,Occ.v]) (by simp [Ty.v]) (by simp [Ty.v,ownsL_app]) ?_
 have hv1:=pickI_bd l q 8 dq
 refine qR 1 [(0,.imm (l.map (AVal.int .i64))),(1,nI q),(2,.int .i64 (d)),(6,.ptr 0 0),(7,.int .i64 (pickI l q 8))] [.box zC] ?_ ?_
 refine qSeq ?_ ?_
 refine qU 2 [(0,.imm (l.map (AVal.int .i64))),(1,nI q),(2,.int .i64 (d)),(6,.ptr 0 0),(7,.int .i64 (pickI l q 8)),(15,.bool ((d)==0))] ?_ ?_
 by_cases hb2:(d)=0
 refine qt (beq_iff_eq.2 hb2) ?_ ?_
 refine qo ?_ ?_
 refine qr 1 ?_ ?_
 refine qy (o_rem (a:=(pickI l q 8)) (b:=5) kq dq) ?_ ?_ ?_
 refine qR 1 [(0,.imm (l.map (AVal.int .i64))),(1,nI q),(2,.int .i64 (d)),(6,.ptr 0 0),(7,.int .i64 ((pickI l q 8).tmod 5))] [.box zC] ?_ ?_
 refine qSeq ?_ ?_
 refine qU 1 [(0,.imm (l.map (AVal.int .i64))),(1,nI q),(2,.int .i64 (d)),(6,.ptr 0 0),(7,.int .i64 ((pickI l q 8).tmod 5)),(18,.int .i64 ((pickI l q 8).tmod 5))] ?_ ?_
 refine qB 0 ?_ ?_ ?_
 refine qSeq ?_ ?_
 refine qU 2 [(0,.imm (l.map (AVal.int .i64))),(1,nI q),(2,.int .i64 (d)),(6,.ptr 0 0),(7,.int .i64 ((pickI l q 8).tmod 5)),(18,.int .i64 ((pickI l q 8).tmod 5)),(19,.bool (((pickI l q 8).tmod 5)==0))] ?_ ?_
 by_cases hb3:((pickI l q 8).tmod 5)=0
 refine qt (beq_iff_eq.2 hb3) ?_ ?_
 refine qK ?_ ?_
 refine qz [(0,.imm (l.map (AVal.int .i64))),(1,nI q),(2,.int .i64 (d)),(6,.ptr 0 0),(7,.int .i64 ((pickI l q 8).tmod 5)),(18,.int .i64 ((pickI l q 8).tmod 5)),(19,.bool (((pickI l q 8).tmod 5)==0))] ?_ ?_
 refine qt (beq_iff_eq.2 hb3) ?_ ?_
 refine qW 3 [(6,.ptr 0 0)] [.box [.int .i64 ((pickI l q 8).tmod 5),.str [],.int .i64 0,.full [],.full []]] ?_ ?_
 refine wRet kq ?_
 apply iR
 apply aR
 refine leafR (l:=[.agg [.int .i64 ((pickI l q 8).tmod 5),.str [],.int .i64 0,.full [],.full []]]) 0 [] (.inr rfl) kq (Nat.zero_le _) kq (by simp [awrap,-List.map_append,-List.map_take,-List.map_drop,-List.append_assoc]) (by simp [AObj.belO,-List.map_append,-List.map_take,-List.map_drop,-List.append_assoc]) ?_
 rotate_left
 iterate 5 kernel_rfl
 refine qf (beq_eq_false_iff_ne.2 hb3) ?_ ?_
 refine qU 2 [(0,.imm (l.map (AVal.int .i64))),(1,nI q),(2,.int .i64 (d)),(6,.ptr 0 0),(7,.int .i64 ((pickI l q 8).tmod 5)),(18,.int .i64 ((pickI l q 8).tmod 5)),(19,.bool (((pickI l q 8).tmod 5)==1))] ?_ ?_
 by_cases hb5:((pickI l q 8).tmod 5)=1
 refine qt (beq_iff_eq.2 hb5) ?_ ?_
 refine qK ?_ ?_
 refine qz [(0,.imm (l.map (AVal.int .i64))),(1,nI q),(2,.int .i64 (d)),(6,.ptr 0 0),(7,.int .i64 ((pickI l q 8).tmod 5)),(18,.int .i64 ((pickI l q 8).tmod 5)),(19,.bool (((pickI l q 8).tmod 5)==1))] ?_ ?_
 refine qt (beq_iff_eq.2 hb5) ?_ ?_
 refine qW 3 [(6,.ptr 0 0)] [.box [.int .i64 ((pickI l q 8).tmod 5),.str [],.int .i64 0,.full [],.full []]] ?_ ?_
 refine wRet kq ?_
 apply iR
 apply aR
 refine leafR (l:=[.agg [.int .i64 ((pickI l q 8).tmod 5),.str [],.int .i64 0,.full [],.full []]]) 0 [] (.inr rfl) kq (Nat.zero_le _) kq (by simp [awrap,-List.map_append,-List.map_take,-List.map_drop,-List.append_assoc]) (by simp [AObj.belO,-List.map_append,-List.map_take,-List.map_drop,-List.append_assoc]) ?_
 rotate_left
 iterate 5 kernel_rfl
 refine qf (beq_eq_false_iff_ne.2 hb5) ?_ ?_
 refine qo ?_ ?_
 refine qR 2 [(0,.imm (l.map (AVal.int .i64))),(1,nI q),(2,.int .i64 (d)),(6,.ptr 0 0),(7,.int .i64 ((pickI l q 8).tmod 5)),(18,.int .i64 ((pickI l q 8).tmod 5)),(19,.bool (((pickI l q 8).tmod 5)==2))] [.box zC] ?_ ?_
 by_cases hb7:((pickI l q 8).tmod 5)=2
 refine qt (beq_iff_eq.2 hb7) ?_ ?_
 refine qW 3 [(6,.ptr 0 0)] [.box [.int .i64 ((pickI l q 8).tmod 5),.str [],.int .i64 0,.full [],.full []]] ?_ ?_
 refine wRet kq ?_
 apply iR
 apply aR
 refine leafR (l:=[.agg [.int .i64 ((pickI l q 8).tmod 5),.str [],.int .i64 0,.full [],.full []]]) 0 [] (.inr rfl) kq (Nat.zero_le _) kq (by simp [awrap,-List.map_append,-List.map_take,-List.map_drop,-List.append_assoc]) (by simp [AObj.belO,-List.map_append,-List.map_take,-List.map_drop,-List.append_assoc]) ?_
 rotate_left
 iterate 2 kernel_rfl
 refine qf (beq_eq_false_iff_ne.2 hb7) ?_ ?_
 refine qU 2 [(0,.imm (l.map (AVal.int .i64))),(1,nI q),(2,.int .i64 (d)),(6,.ptr 0 0),(18,.int .i64 ((pickI l q 8).tmod 5)),(25,.bool (((pickI l q 8).tmod 5)==3))] ?_ ?_
 by_cases hb8:((pickI l q 8).tmod 5)=3
 refine qt (beq_iff_eq.2 hb8) ?_ ?_
 refine qW 2 [(6,.ptr 0 0)] [.box [.int .i64 3,.str [67,111,108,111,114],.int .i64 0,.full [],.full []]] ?_ ?_
 refine wRet kq ?_
 apply iR
 apply aR
 refine leafR (l:=[.agg [.int .i64 3,.str [67,111,108,111,114],.int .i64 0,.full [],.full []]]) 0 [] (.inr rfl) kq (Nat.zero_le _) kq (by simp [awrap,-List.map_append,-List.map_take,-List.map_drop,-List.append_assoc]) (by simp [AObj.belO,-List.map_append,-List.map_take,-List.map_drop,-List.append_assoc]) ?_
 rotate_left
 iterate 2 kernel_rfl
 refine qf (beq_eq_false_iff_ne.2 hb8) ?_ ?_
 refine qU 2 [(0,.imm (l.map (AVal.int .i64))),(1,nI q),(2,.int .i64 (d)),(6,.ptr 0 0),(18,.int .i64 ((pickI l q 8).tmod 5)),(28,.bool (((pickI l q 8).tmod 5)==4))] ?_ ?_
 by_cases hb9:((pickI l q 8).tmod 5)=4
 refine qt (beq_iff_eq.2 hb9) ?_ ?_
 refine qW 2 [(6,.ptr 0 0)] [.box [.int .i64 3,.str [83,104,97,112,101],.int .i64 0,.full [],.full []]] ?_ ?_
 refine wRet kq ?_
 apply iR
 apply aR
 refine leafR (l:=[.agg [.int .i64 3,.str [83,104,97,112,101],.int .i64 0,.full [],.full []]]) 0 [] (.inr rfl) kq (Nat.zero_le _) kq (by simp [awrap,-List.map_append,-List.map_take,-List.map_drop,-List.append_assoc]) (by simp [AObj.belO,-List.map_append,-List.map_take,-List.map_drop,-List.append_assoc]) ?_
 rotate_left
 iterate 2 kernel_rfl
 · exfalso;omega
 iterate 21 kernel_rfl
 refine qf (beq_eq_false_iff_ne.2 hb2) ?_ ?_
 refine qK ?_ ?_
 refine qz [(0,.imm (l.map (AVal.int .i64))),(1,nI q),(2,.int .i64 (d)),(6,.ptr 0 0),(7,.int .i64 (pickI l q 8))] ?_ ?_
 refine qSeq ?_ ?_
 refine qU 1 [(0,.imm (l.map (AVal.int .i64))),(1,nI q),(2,.int .i64 (d)),(6,.ptr 0 0),(7,.int .i64 (pickI l q 8)),(18,.int .i64 (pickI l q 8))] ?_ ?_
 refine qB 0 ?_ ?_ ?_
 refine qSeq ?_ ?_
 refine qU 2 [(0,.imm (l.map (AVal.int .i64))),(1,nI q),(2,.int .i64 (d)),(6,.ptr 0 0),(7,.int .i64 (pickI l q 8)),(18,.int .i64 (pickI l q 8)),(19,.bool ((pickI l q 8)==0))] ?_ ?_
 by_cases hb10:(pickI l q 8)=0
 refine qt (beq_iff_eq.2 hb10) ?_ ?_
 refine qK ?_ ?_
 refine qz [(0,.imm (l.map (AVal.int .i64))),(1,nI q),(2,.int .i64 (d)),(6,.ptr 0 0),(7,.int .i64 (pickI l q 8)),(18,.int .i64 (pickI l q 8)),(19,.bool ((pickI l q 8)==0))] ?_ ?_
 refine qt (beq_iff_eq.2 hb10) ?_ ?_
 refine qW 3 [(6,.ptr 0 0)] [.box [.int .i64 (pickI l q 8),.str [],.int .i64 0,.full [],.full []]] ?_ ?_
 refine wRet kq ?_
 apply iR
 apply aR
 refine leafR (l:=[.agg [.int .i64 (pickI l q 8),.str [],.int .i64 0,.full [],.full []]]) 0 [] (.inr rfl) kq (Nat.zero_le _) kq (by simp [awrap,-List.map_append,-List.map_take,-List.map_drop,-List.append_assoc]) (by simp [AObj.belO,-List.map_append,-List.map_take,-List.map_drop,-List.append_assoc]) ?_
 rotate_left
 iterate 5 kernel_rfl
 refine qf (beq_eq_false_iff_ne.2 hb10) ?_ ?_
 refine qU 2 [(0,.imm (l.map (AVal.int .i64))),(1,nI q),(2,.int .i64 (d)),(6,.ptr 0 0),(7,.int .i64 (pickI l q 8)),(18,.int .i64 (pickI l q 8)),(19,.bool ((pickI l q 8)==1))] ?_ ?_
 by_cases hb12:(pickI l q 8)=1
 refine qt (beq_iff_eq.2 hb12) ?_ ?_
 refine qK ?_ ?_
 refine qz [(0,.imm (l.map (AVal.int .i64))),(1,nI q),(2,.int .i64 (d)),(6,.ptr 0 0),(7,.int .i64 (pickI l q 8)),(18,.int .i64 (pickI l q 8)),(19,.bool ((pickI l q 8)==1))] ?_ ?_
 refine qt (beq_iff_eq.2 hb12) ?_ ?_
 refine qW 3 [(6,.ptr 0 0)] [.box [.int .i64 (pickI l q 8),.str [],.int .i64 0,.full [],.full []]] ?_ ?_
 refine wRet kq ?_
 apply iR
 apply aR
 refine leafR (l:=[.agg [.int .i64 (pickI l q 8),.str [],.int .i64 0,.full [],.full []]]) 0 [] (.inr rfl) kq (Nat.zero_le _) kq (by simp [awrap,-List.map_append,-List.map_take,-List.map_drop,-List.append_assoc]) (by simp [AObj.belO,-List.map_append,-List.map_take,-List.map_drop,-List.append_assoc]) ?_
 rotate_left
 iterate 5 kernel_rfl
 refine qf (beq_eq_false_iff_ne.2 hb12) ?_ ?_
 refine qo ?_ ?_
 refine qR 2 [(0,.imm (l.map (AVal.int .i64))),(1,nI q),(2,.int .i64 (d)),(6,.ptr 0 0),(7,.int .i64 (pickI l q 8)),(18,.int .i64 (pickI l q 8)),(19,.bool ((pickI l q 8)==2))] [.box zC] ?_ ?_
 by_cases hb14:(pickI l q 8)=2
 refine qt (beq_iff_eq.2 hb14) ?_ ?_
 refine qW 3 [(6,.ptr 0 0)] [.box [.int .i64 (pickI l q 8),.str [],.int .i64 0,.full [],.full []]] ?_ ?_
 refine wRet kq ?_
 apply iR
 apply aR
 refine leafR (l:=[.agg [.int .i64 (pickI l q 8),.str [],.int .i64 0,.full [],.full []]]) 0 [] (.inr rfl) kq (Nat.zero_le _) kq (by simp [awrap,-List.map_append,-List.map_take,-List.map_drop,-List.append_assoc]) (by simp [AObj.belO,-List.map_append,-List.map_take,-List.map_drop,-List.append_assoc]) ?_
 rotate_left
 iterate 2 kernel_rfl
 refine qf (beq_eq_false_iff_ne.2 hb14) ?_ ?_
 refine qU 2 [(0,.imm (l.map (AVal.int .i64))),(1,nI q),(2,.int .i64 (d)),(6,.ptr 0 0),(18,.int .i64 (pickI l q 8)),(25,.bool ((pickI l q 8)==3))] ?_ ?_
 by_cases hb15:(pickI l q 8)=3
 refine qt (beq_iff_eq.2 hb15) ?_ ?_
 refine qW 2 [(6,.ptr 0 0)] [.box [.int .i64 3,.str [67,111,108,111,114],.int .i64 0,.full [],.full []]] ?_ ?_
 refine wRet kq ?_
 apply iR
 apply aR
 refine leafR (l:=[.agg [.int .i64 3,.str [67,111,108,111,114],.int .i64 0,.full [],.full []]]) 0 [] (.inr rfl) kq (Nat.zero_le _) kq (by simp [awrap,-List.map_append,-List.map_take,-List.map_drop,-List.append_assoc]) (by simp [AObj.belO,-List.map_append,-List.map_take,-List.map_drop,-List.append_assoc]) ?_
 rotate_left
 iterate 2 kernel_rfl
 refine qf (beq_eq_false_iff_ne.2 hb15) ?_ ?_
 refine qU 2 [(0,.imm (l.map (AVal.int .i64))),(1,nI q),(2,.int .i64 (d)),(6,.ptr 0 0),(18,.int .i64 (pickI l q 8)),(28,.bool ((pickI l q 8)==4))] ?_ ?_
 by_cases hb16:(pickI l q 8)=4
 refine qt (beq_iff_eq.2 hb16) ?_ ?_
 refine qW 2 [(6,.ptr 0 0)] [.box [.int .i64 3,.str [83,104,97,112,101],.int .i64 0,.full [],.full []]] ?_ ?_
 refine wRet kq ?_
 apply iR
 apply aR
 refine leafR (l:=[.agg [.int .i64 3,.str [83,104,97,112,101],.int .i64 0,.full [],.full []]]) 0 [] (.inr rfl) kq (Nat.zero_le _) kq (by simp [awrap,-List.map_append,-List.map_take,-List.map_drop,-List.append_assoc]) (by simp [AObj.belO,-List.map_append,-List.map_take,-List.map_drop,-List.append_assoc]) ?_
 rotate_left
 iterate 2 kernel_rfl
 refine qf (beq_eq_false_iff_ne.2 hb16) ?_ ?_
 refine qU 2 [(0,.imm (l.map (AVal.int .i64))),(1,nI q),(2,.int .i64 (d)),(6,.ptr 0 0),(31,.bool ((pickI l q 8)==5))] ?_ ?_
 by_cases hb17:(pickI l q 8)=5
 refine qt (beq_iff_eq.2 hb17) ?_ ?_
 refine qV 2 ?_ ?_
 refine qy (o_add (a:=((q:Nat):Int)) (b:=1) kq oq oq) ?_ ?_ ?_
 refine qr 1 ?_ ?_
 refine qy (o_sub (a:=(d)) (b:=1) kq oq oq) ?_ ?_ ?_
 refine vcallP (args:=[.imm (l.map (AVal.int .i64)),.int .i64 (((q+1):Nat):Int),.int .i64 ((d) - 1)]) kq kq kq kq (ihP (q+1) oq oq) (by simp [Ty.v,frzL_app,Occ.v]) (by simp [Ty.v]) (by simp [Ty.v,ownsL_app]) ?_
 refine qR 3 [(6,.ptr 0 0)] [.box [.int .i64 4,.str [],.int .i64 0,.full [],.full [Ty.v (closedT l (d - 1).toNat (q+1))]]] ?_ ?_
 refine wRet kq ?_
 apply iR
 apply aR
 refine leafR (l:=[.agg [.int .i64 4,.str [],.int .i64 0,.full [],.full [Ty.v (closedT l (d - 1).toNat (q+1))]]]) 0 [] (.inr rfl) kq (Nat.zero_le _) kq (by simp [awrap,-List.map_append,-List.map_take,-List.map_drop,-List.append_assoc]) (by simp [AObj.belO,-List.map_append,-List.map_take,-List.map_drop,-List.append_assoc]) ?_
 · rw [closedT_5 oq aq]
   exact .inr ⟨by simp [Ty.kind],by simp [awrap,AVal.frz,frzL,Ty.v,Ty.kind,Ty.name,Ty.n,Ty.names,Ty.kids,Ty.enc_v]⟩
 iterate 8 kernel_rfl
 refine qf (beq_eq_false_iff_ne.2 hb17) ?_ ?_
 refine qk ?_ ?_
 refine AIn_normal ?_
 refine AThen_normal ?_
 refine qz [(0,.imm (l.map (AVal.int .i64))),(1,nI q),(2,.int .i64 (d)),(6,.ptr 0 0)] ?_ ?_
 refine qW 3 [(0,.imm (l.map (AVal.int .i64))),(1,nI q),(2,.int .i64 (d)),(6,.ptr 0 0),(8,.ptr 1 0)] [.box zC,.box [.int .i64 5,.str [],.int .i64 0,.full [],.full []]] ?_ ?_
 refine qV 2 ?_ ?_
 refine qy (o_add (a:=((q:Nat):Int)) (b:=1) kq oq oq) ?_ ?_ ?_
 refine vcallP (args:=[.imm (l.map (AVal.int .i64)),.int .i64 (((q+1):Nat):Int),.int .i64 16]) kq kq kq kq (pick_spec l (q+1) 16 oq oq) (by simp [Ty.v,frzL_app,Occ.v]) (by simp [Ty.v]) (by simp [Ty.v,ownsL_app]) ?_
 have hv18:=pickI_bd l (q+1) 16 dq
 refine qR 1 [(0,.imm (l.map (AVal.int .i64))),(1,nI q),(2,.int .i64 (d)),(6,.ptr 0 0),(8,.ptr 1 0),(9,.int .i64 (pickI l (q+1) 16))] [.box zC,.box [.int .i64 5,.str [],.int .i64 0,.full [],.full []]] ?_ ?_
 refine qSeq ?_ ?_
 refine qU 1 [(0,.imm (l.map (AVal.int .i64))),(1,nI q),(2,.int .i64 (d)),(6,.ptr 0 0),(8,.ptr 1 0),(9,.int .i64 (pickI l (q+1) 16)),(10,.int .i64 0)] ?_ ?_
 refine wImmB 1 3 (cs:=[.int .i64 5,.str [],.int .i64 0,.full [],.full []]) (y:=.full []) [.int .i64 5,.str [],.int .i64 0,.imm [],.full []] kq kq zq (by simp [List.set,AVal.frz,frzL]) ?_
 refine wOwnB 1 4 5 (cs:=[.int .i64 5,.str [],.int .i64 0,.imm [],.full []]) [.int .i64 5,.str [],.int .i64 0,.imm [],.own 2 0 0] dq kq kq kq ?_
 refine qZ [(0,.imm (l.map (AVal.int .i64))),(1,nI q),(2,.int .i64 (d)),(6,.ptr 0 0),(8,.ptr 1 0),(9,.int .i64 (pickI l (q+1) 16)),(10,.int .i64 0)] [.box zC,.box [.int .i64 5,.str [],.int .i64 0,.imm [],.own 2 0 0],.arr 5 (([]:List (Ty)).map Ty.enc) 0] ?_ ?_
 refine qB 1 ?_ ?_ ?_
 refine wLoop (σ:=(Nat×Int×Ty)) (fun ⟨i,w,o⟩=>[(0,.imm (l.map (AVal.int .i64))),(1,.int .i64 ((q:Nat):Int)),(2,.int .i64 (d)),(6,.ptr 0 0),(8,.ptr 1 0),(9,.int .i64 (w)),(10,.int .i64 ((i:Nat):Int))]) (fun ⟨i,w,o⟩=>[.box zC,.box [.int .i64 (o.kind),.str o.name,.int .i64 (o.n),.imm (o.names.map AVal.str),.own 2 0 o.kids.length],.arr 5 (o.kids.map Ty.enc) 0]) (fun ⟨i,w,o⟩=>(i≤4∧0≤w∧w<16)∧(o.kind=5∧o.names.length=o.kids.length∧o.sz≤1+i * 20000)∧recF (fun i=>closedT l (d - 1).toNat (q+2+3 * i)) (4 - i) i w o=closedT l d.toNat q) (fun ⟨i,w,o⟩=>4 - i) (0,pickI l (q+1) 16,rec0) kq (by have:=pickI_bd l (q+1) 16 dq;exact ⟨⟨by omega,this.1,this.2⟩,⟨rfl,rfl,by decide⟩,(closedT_r oq oq).symm⟩) ⟨⟨kq,kq,kq,kq,kq,kq,kq,trivial⟩,by simp [BelL,AVal.bel],by simp,kq,by simp [AObj.belO]⟩ ?_
 rintro ⟨i,w,o⟩ ⟨⟨hi,hw0,hw1⟩,⟨ho5,hnk,hosz⟩,hR⟩
 have hwd:=tdiv_bd hw0 hw1
 refine qZ [(0,.imm (l.map (AVal.int .i64))),(1,nI q),(2,.int .i64 (d)),(6,.ptr 0 0),(8,.ptr 1 0),(9,.int .i64 (w)),(10,nI i)] [.box zC,.box [.int .i64 (o.kind),.str o.name,.int .i64 (o.n),.imm (o.names.map AVal.str),.own 2 0 o.kids.length],.arr 5 (o.kids.map Ty.enc) 0] ?_ ?_
 refine qSeq ?_ ?_
 refine qU 2 [(0,.imm (l.map (AVal.int .i64))),(1,nI q),(2,.int .i64 (d)),(6,.ptr 0 0),(8,.ptr 1 0),(9,.int .i64 (w)),(10,nI i),(47,.bool (decide (((i:Nat):Int)<4)))] ?_ ?_
 by_cases hb19:((i:Nat):Int)<4
 refine qt (decide_eq_true hb19) ?_ ?_
 refine qK ?_ ?_
 refine qz [(0,.imm (l.map (AVal.int .i64))),(1,nI q),(2,.int .i64 (d)),(6,.ptr 0 0),(8,.ptr 1 0),(9,.int .i64 (w)),(10,nI i)] ?_ ?_
 refine qSeq ?_ ?_
 refine qB 2 ?_ ?_ ?_
 refine qSeq ?_ ?_
 refine qV 1 ?_ ?_
 refine qy (o_rem (a:=(w)) (b:=2) kq dq) ?_ ?_ ?_
 refine qR 1 [(0,.imm (l.map (AVal.int .i64))),(1,nI q),(2,.int .i64 (d)),(6,.ptr 0 0),(8,.ptr 1 0),(9,.int .i64 (w)),(10,nI i),(52,.bool (((w).tmod 2)==1))] [.box zC,.box [.int .i64 (o.kind),.str o.name,.int .i64 (o.n),.imm (o.names.map AVal.str),.own 2 0 o.kids.length],.arr 5 (o.kids.map Ty.enc) 0] ?_ ?_
 by_cases hb20:((w).tmod 2)=1
 refine qt (beq_iff_eq.2 hb20) ?_ ?_
 refine wDrw cxM kq extThen (dstart ?_)
 refine qu 1 ?_ ?_
 refine dcallP (args:=[]) kq kq kq kq kq (names2_spec) (fun _=>kq) kq kq ?_
 refine qu 1 ?_ ?_
 refine qd (o_ixmap (k:=.i64) (l:=nms) (enc:=AVal.str) (i:=((i:Nat):Int)) [] kq ty22 ty9 (fun _=>rfl) oq oq) ?_ ?_ ?_ ?_
 refine qu 3 ?_ ?_
 refine qd (o_add (a:=((q:Nat):Int)) (b:=2) kq oq oq) ?_ ?_ ?_ ?_
 refine qu 1 ?_ ?_
 refine qd (o_mul (a:=3) (b:=((i:Nat):Int)) kq oq oq) ?_ ?_ ?_ ?_
 refine qd (o_add (a:=(((q+2):Nat):Int)) (b:=(((3 * i):Nat):Int)) kq oq oq) ?_ ?_ ?_ ?_
 refine qu 1 ?_ ?_
 refine qd (o_sub (a:=(d)) (b:=1) kq oq oq) ?_ ?_ ?_ ?_
 refine dcallP (args:=[.imm (l.map (AVal.int .i64)),.int .i64 ((((q+2)+(3 * i)):Nat):Int),.int .i64 ((d) - 1)]) kq kq kq kq kq (ihP ((q+2)+(3 * i)) oq oq) (by intro _;simp [Ty.v,frzL_app,Occ.v]) (by simp [Ty.v]) (by simp [Ty.v,ownsL_app]) ?_
 refine dgrow1 (args:=[.agg [.int .i64 (o.kind),.str o.name,.int .i64 (o.n),.imm (o.names.map AVal.str),.own 2 0 o.kids.length],.str (nms.getD i []),Ty.v (closedT l (d - 1).toNat ((q+2)+(3 * i)))]) (args':=[Ty.v o,.str (nms.getD i []),Ty.v (closedT l (d - 1).toNat ((q+2)+(3 * i)))]) (V':=.agg [.int .i64 5,.str [],.int .i64 (o.n),.imm ((putN o (nms.getD i [])).map AVal.str),.own 3 0 (putK o (nms.getD i []) (closedT l (d - 1).toNat ((q+2)+(3 * i)))).length]) (F:=[.box zC,.box [.int .i64 (o.kind),.str o.name,.int .i64 (o.n),.imm (o.names.map AVal.str),.own 2 0 o.kids.length],.arr 5 (o.kids.map Ty.enc) (o.kids.map Ty.enc).length]) (G':=[.arr 5 ((putK o (nms.getD i []) (closedT l (d - 1).toNat ((q+2)+(3 * i)))).map Ty.enc) 0]) (L:=[2,3]) kq kq kq kq kq (put_raw o (closedT l (d - 1).toNat ((q+2)+(3 * i))) (nms.getD i []) oq (by have:=hsm (q+2+3 * i);omega) aq) [.box zC,.box [.int .i64 (o.kind),.str o.name,.int .i64 (o.n),.imm (o.names.map AVal.str),.own 2 0 o.kids.length],.arr 5 (o.kids.map Ty.enc) 0] kq (by simp [AVal.frz,frzL,AVal.ren,renL,renH,AObj.ren,lendR,frzH,ownsL,AVal.owns,recV_put,recH_put,Ty.v]) (by simp [AVal.frz,frzL,AVal.ren,renL,renH,AObj.ren,lendR,frzH,ownsL,AVal.owns,recV_put,recH_put,Ty.v]) (by simp [recH_put]) (by simp [AVal.frz,frzL,AVal.ren,renL,renH,AObj.ren,lendR,frzH,ownsL,AVal.owns,recV_put,recH_put,Ty.v]) (by simp [AVal.frz,frzL,AVal.ren,renL,renH,AObj.ren,lendR,frzH,ownsL,AVal.owns,recV_put,recH_put,Ty.v]) (by simp [AVal.frz,frzL,AVal.ren,renL,renH,AObj.ren,lendR,frzH,ownsL,AVal.owns,recV_put,recH_put,Ty.v]) (by simp [growL,ownsL,AVal.owns,recV_put,recH_put,Ty.v]) ?_
 refine qu 1 ?_ ?_
 refine dend kq ⟨kq,?_⟩
 refine AThen_normal ?_
 refine qZ [(0,.imm (l.map (AVal.int .i64))),(1,nI q),(2,.int .i64 (d)),(6,.ptr 0 0),(8,.ptr 1 0),(9,.int .i64 (w)),(10,nI i)] [.box zC,.box [.int .i64 5,.str [],.int .i64 (o.n),.imm ((putN o (nms.getD i [])).map AVal.str),.own 3 0 (putK o (nms.getD i []) (closedT l (d - 1).toNat ((q+2)+(3 * i)))).length],.arr 5 (o.kids.map Ty.enc) (o.kids.map Ty.enc).length,.arr 5 ((putK o (nms.getD i []) (closedT l (d - 1).toNat ((q+2)+(3 * i)))).map Ty.enc) 0] ?_ ?_
 refine wRen [0,1,3] [(0,.imm (l.map (AVal.int .i64))),(1,.int .i64 ((q:Nat):Int)),(2,.int .i64 (d)),(6,.ptr 0 0),(8,.ptr 1 0),(9,.int .i64 (w)),(10,.int .i64 ((i:Nat):Int))] [.box zC,.box [.int .i64 5,.str [],.int .i64 (o.n),.imm ((putN o (nms.getD i [])).map AVal.str),.own 2 0 (putK o (nms.getD i []) (closedT l (d - 1).toNat ((q+2)+(3 * i)))).length],.arr 5 ((putK o (nms.getD i []) (closedT l (d - 1).toNat ((q+2)+(3 * i)))).map Ty.enc) 0] dq (by simp [-List.map_append,-List.map_take,-List.map_drop,-List.append_assoc,AVal.refs,refsL,AObj.refs,AObj.isIter,objOk,Abs.renT,keepH,renO,AObj.ren,AVal.ren,renL,List.idxOf_cons]) (by simp [-List.map_append,-List.map_take,-List.map_drop,-List.append_assoc,AVal.refs,refsL,AObj.refs,AObj.isIter,objOk,Abs.renT,keepH,renO,AObj.ren,AVal.ren,renL,List.idxOf_cons]) (by simp [-List.map_append,-List.map_take,-List.map_drop,-List.append_assoc,AVal.refs,refsL,AObj.refs,AObj.isIter,objOk,Abs.renT,keepH,renO,AObj.ren,AVal.ren,renL,List.idxOf_cons]) (by simp [-List.map_append,-List.map_take,-List.map_drop,-List.append_assoc,AVal.refs,refsL,AObj.refs,AObj.isIter,objOk,Abs.renT,keepH,renO,AObj.ren,AVal.ren,renL,List.idxOf_cons]) ?_
 refine qZ [(0,.imm (l.map (AVal.int .i64))),(1,nI q),(2,.int .i64 (d)),(6,.ptr 0 0),(8,.ptr 1 0),(9,.int .i64 (w)),(10,nI i)] [.box zC,.box [.int .i64 5,.str [],.int .i64 (o.n),.imm ((putN o (nms.getD i [])).map AVal.str),.own 2 0 (putK o (nms.getD i []) (closedT l (d - 1).toNat ((q+2)+(3 * i)))).length],.arr 5 ((putK o (nms.getD i []) (closedT l (d - 1).toNat ((q+2)+(3 * i)))).map Ty.enc) 0] ?_ ?_
 refine qo ?_ ?_
 refine qr 1 ?_ ?_
 refine qy (o_quo (a:=(w)) (b:=2) kq dq oq oq) ?_ ?_ ?_
 refine qr 1 ?_ ?_
 refine qe ?_ ?_
 refine AIn_normal ?_
 refine AThen_normal ?_
 refine qz [(0,.imm (l.map (AVal.int .i64))),(1,nI q),(2,.int .i64 (d)),(6,.ptr 0 0),(8,.ptr 1 0),(9,.int .i64 ((w).tdiv 2)),(10,nI i)] ?_ ?_
 refine qo ?_ ?_
 refine qr 1 ?_ ?_
 refine qy (o_add (a:=((i:Nat):Int)) (b:=1) kq oq oq) ?_ ?_ ?_
 refine qr 1 ?_ ?_
 refine qe ?_ ?_
 refine AThen_normal ⟨(i+1,w.tdiv 2,(putT o (nms.getD i []) (closedT l (d - 1).toNat (q+2+3 * i)))),?_,?_,⟨⟨kq,kq,kq,kq,kq,kq,kq,trivial⟩,by simp [BelL,AVal.bel],by simp,kq,by simp [AObj.belO]⟩⟩
 · try dsimp only
   omega
 · try dsimp only
   first|(refine ⟨⟨by omega,hwd.1,hwd.2⟩,⟨ho5,hnk,?_⟩,?_⟩;(exact osz_step hosz);rw [← hR,recF_step _ i w o oq,if_neg aq];done)|(refine ⟨⟨by omega,hwd.1,hwd.2⟩,⟨rfl,putT_nk _ _ _ hnk,?_⟩,?_⟩;(have h1:=putT_sz o (nms.getD i []) (closedT l (d - 1).toNat (q+2+3 * i));have h2:=hsm (q+2+3 * i);have h3:=nms_at i;omega);(rw [← hR,recF_step _ i w o oq,if_pos aq]);done)
 iterate 37 kernel_rfl
 refine qf (beq_eq_false_iff_ne.2 hb20) ?_ ?_
 refine qK ?_ ?_
 refine qz [(0,.imm (l.map (AVal.int .i64))),(1,nI q),(2,.int .i64 (d)),(6,.ptr 0 0),(8,.ptr 1 0),(9,.int .i64 (w)),(10,nI i)] ?_ ?_
 refine qo ?_ ?_
 refine qr 1 ?_ ?_
 refine qy (o_quo (a:=(w)) (b:=2) kq dq oq oq) ?_ ?_ ?_
 refine qr 1 ?_ ?_
 refine qe ?_ ?_
 refine AIn_normal ?_
 refine AThen_normal ?_
 refine qz [(0,.imm (l.map (AVal.int .i64))),(1,nI q),(2,.int .i64 (d)),(6,.ptr 0 0),(8,.ptr 1 0),(9,.int .i64 ((w).tdiv 2)),(10,nI i)] ?_ ?_
 refine qo ?_ ?_
 refine qr 1 ?_ ?_
 refine qy (o_add (a:=((i:Nat):Int)) (b:=1) kq oq oq) ?_ ?_ ?_
 refine qr 1 ?_ ?_
 refine qe ?_ ?_
 refine AThen_normal ⟨(i+1,w.tdiv 2,o),?_,?_,⟨⟨kq,kq,kq,kq,kq,kq,kq,trivial⟩,by simp [BelL,AVal.bel],by simp,kq,by simp [AObj.belO]⟩⟩
 · try dsimp only
   omega
 · try dsimp only
   first|(refine ⟨⟨by omega,hwd.1,hwd.2⟩,⟨ho5,hnk,?_⟩,?_⟩;(exact osz_step hosz);rw [← hR,recF_step _ i w o oq,if_neg aq];done)|(refine ⟨⟨by omega,hwd.1,hwd.2⟩,⟨rfl,putT_nk _ _ _ hnk,?_⟩,?_⟩;(have h1:=putT_sz o (nms.getD i []) (closedT l (d - 1).toNat (q+2+3 * i));have h2:=hsm (q+2+3 * i);have h3:=nms_at i;omega);(rw [← hR,recF_step _ i w o oq,if_pos aq]);done)
 iterate 27 kernel_rfl
 refine qf (decide_eq_false hb19) ?_ ?_
 refine wExit 1 kq kq ?_
 refine AThen_exit ?_
 refine AThen_exit ?_
 refine AIn_exit ?_
 refine AThen_normal ?_
 refine qz [(6,.ptr 0 0),(8,.ptr 1 0)] ?_ ?_
 refine qW 2 [(6,.ptr 0 0)] [.box [.int .i64 (o.kind),.str o.name,.int .i64 (o.n),.imm (o.names.map AVal.str),.own 2 0 o.kids.length],.box [.int .i64 (o.kind),.str o.name,.int .i64 (o.n),.imm (o.names.map AVal.str),.own 2 0 o.kids.length],.arr 5 (o.kids.map Ty.enc) 0] ?_ ?_
 refine wRen [2,0] [(6,.ptr 1 0)] [.arr 5 (o.kids.map Ty.enc) 0,.box [.int .i64 (o.kind),.str o.name,.int .i64 (o.n),.imm (o.names.map AVal.str),.own 0 0 o.kids.length]] dq (by simp [-List.map_append,-List.map_take,-List.map_drop,-List.append_assoc,AVal.refs,refsL,AObj.refs,AObj.isIter,objOk,Abs.renT,keepH,renO,AObj.ren,AVal.ren,renL,List.idxOf_cons]) (by simp [-List.map_append,-List.map_take,-List.map_drop,-List.append_assoc,AVal.refs,refsL,AObj.refs,AObj.isIter,objOk,Abs.renT,keepH,renO,AObj.ren,AVal.ren,renL,List.idxOf_cons]) (by simp [-List.map_append,-List.map_take,-List.map_drop,-List.append_assoc,AVal.refs,refsL,AObj.refs,AObj.isIter,objOk,Abs.renT,keepH,renO,AObj.ren,AVal.ren,renL,List.idxOf_cons]) (by simp [-List.map_append,-List.map_take,-List.map_drop,-List.append_assoc,AVal.refs,refsL,AObj.refs,AObj.isIter,objOk,Abs.renT,keepH,renO,AObj.ren,AVal.ren,renL,List.idxOf_cons]) ?_
 refine qZ [(6,.ptr 1 0)] [.arr 5 (o.kids.map Ty.enc) 0,.box [.int .i64 (o.kind),.str o.name,.int .i64 (o.n),.imm (o.names.map AVal.str),.own 0 0 o.kids.length]] ?_ ?_
 refine wRet kq ?_
 refine leafR (l:=[.agg [.int .i64 (o.kind),.str o.name,.int .i64 (o.n),.imm (o.names.map AVal.str),.own 0 0 o.kids.length]]) 1 [.arr 5 (o.kids.map Ty.enc) 0] (.inr rfl) kq (Nat.zero_le _) kq (by simp [awrap,-List.map_append,-List.map_take,-List.map_drop,-List.append_assoc]) (by simp [AObj.belO,-List.map_append,-List.map_take,-List.map_drop,-List.append_assoc]) ?_
 · rw [show 4 - i=0 by omega,recF] at hR
   rw [← hR]
   exact .inl ⟨ho5,rfl,rfl⟩
 iterate 46 kernel_rfl
 all_goals
  first|exact clQ_base (k:=(pickI l q 8).tmod 5) (closedT_0 oq) oq (by simp [awrap,AVal.frz,frzL,Ty.v,Ty.kind,Ty.name,Ty.n,Ty.names,Ty.kids,baseT, *];done)|exact clQ_base (k:=pickI l q 8) (closedT_b oq oq) oq (by simp [awrap,AVal.frz,frzL,Ty.v,Ty.kind,Ty.name,Ty.n,Ty.names,Ty.kids,baseT, *];done)
end Go.Proofs.YtdikgijfekfaoaaGreatDoor
namespace Go.Proofs.YtdikgijfekfaoaaGreatDoor
open Go.Proofs.YtdikgijfekfaoaaGreatDoor.Abs
set_option maxRecDepth 20000
set_option maxHeartbeats 4000000
@[simp] theorem Ty.kind_mk (k:Int) (x:List UInt8) (n:Int) (l:List (List UInt8)) (ks:List Ty):(Ty.mk k x n l ks).kind=k:=rfl
@[simp] theorem Ty.name_mk (k:Int) (x:List UInt8) (n:Int) (l:List (List UInt8)) (ks:List Ty):(Ty.mk k x n l ks).name=x:=rfl
@[simp] theorem Ty.n_mk (k:Int) (x:List UInt8) (n:Int) (l:List (List UInt8)) (ks:List Ty):(Ty.mk k x n l ks).n=n:=rfl
@[simp] theorem Ty.names_mk (k:Int) (x:List UInt8) (n:Int) (l:List (List UInt8)) (ks:List Ty):(Ty.mk k x n l ks).names=l:=rfl
@[simp] theorem Ty.kids_mk (k:Int) (x:List UInt8) (n:Int) (l:List (List UInt8)) (ks:List Ty):(Ty.mk k x n l ks).kids=ks:=rfl
theorem ty_ok2 (t:Ty):t.enc.cells.length=5∧t.enc.cells.all AVal.cellOk=true:=by rw [ty_cells];exact ⟨rfl,rfl⟩
theorem ty_with (p q:Ty):p.enc.withCells q.enc.cells=some q.enc:=by rw [Ty.enc_v,Ty.enc_v];rfl
end Go.Proofs.YtdikgijfekfaoaaGreatDoor
namespace Go.Proofs.YtdikgijfekfaoaaGreatDoor
open Go.Proofs.YtdikgijfekfaoaaGreatDoor.Abs
set_option maxRecDepth 20000
set_option maxHeartbeats 4000000
theorem nil_mem {l:List AVal} {h:AHeap} {r:AVal×AHeap} (hr:r∈(bif l.isEmpty then [true,false] else [false]).map fun b=>((.bool b:AVal),h)):∃ b,r=(.bool b,h)∧(b=true→l=[]):=by
  obtain ⟨b,hb,rfl⟩:=List.mem_map.1 hr
  refine ⟨b,rfl,?_⟩
  rintro rfl
  cases l with
  | nil=>rfl
  | cons x l=>simp at hb
theorem o_appnew {P:Program} {ev:Operand→AVal} {op:Op} {h h0:AHeap} {l:List AVal} {t e a b a' b':Nat} {z z':AVal} {ek:TyK} (hv:vBlt ev op=some (.append,[t,t],[.full [],.imm l])) (hh:h=h0)
    (ht:tyOf P t=some ⟨.slice e,a,b,z⟩) (he:tyOf P e=some ⟨ek,a',b',z'⟩) (hc:0<a'∧z'.cells.length=a'∧rowOk a' l=true) (hf:fits l.length b'=true) :
    aop P h ev op=some (.own h0.length 0 l.length,h0++[.arr a' l 0]):=by
  subst hh
  rw [vBlt_spec hv]
  simp only [abuiltin,aappend,ht,he,aelems]
  rw [if_pos hc,if_pos ⟨rfl,rfl,by simpa using hf⟩]
  simp
theorem own_fin {cx:Cx} {m:Nat} {l:List AVal} {h:AHeap} {sz r:Nat} {T:Tm} {e:Exit} (hm:m=h.length) (he:e=.normal∨e=.ret) (hT:Tm.get T r=.own h.length 0 l.length) (hb:h.all (AObj.belO (h.length+1))=true) (hbl:belL (h.length+1) l=true) :
    FinRaw cx [.tmp r] m (fun v h'=>v=.own h.length 0 l.length∧h'=h++[.arr sz l 0]) e T (h++[.arr sz l 0]):=by
  have ht:(h++[AObj.arr sz l 0]).take (h.length+1)=h++[.arr sz l 0]:=List.take_of_length_le zq
  refine ⟨he,[.own h.length 0 l.length],by simp [ares,hT],h.length+1,by omega,by simp [awrap,AVal.bel],?_,rfl,ht⟩
  rw [ht,List.all_append,hb]
  simp [AObj.belO,hbl]
noncomputable def cl84:Code:=bodyOf Tryz.f84
theorem clone84 (l:List AVal) (h:AHeap) (hok:rowOk 1 l=true) (hf:fits l.length 16=true) (hb:h.all (AObj.belO (h.length+1))=true) (hbl:belL (h.length+1) l=true) :
    CallsA cx 84 [.imm l] h (fun v h'=>v=.own h.length 0 l.length∧h'=h++[.arr 1 l 0]):=by
 refine func_raw (cx:=cx) 8 h.length [.tmp 2] Tryz.func84 rfl rfl rfl rfl rfl zq ?_
 show wpA cx 8 h.length (at_ cl84 []) _ _ _
 refine wSt [0] [(0,.imm l)] h kq rfl ?_
 refine qW 1 [(0,.imm l),(2,.full [])] h ?_ ?_
 refine qSeq ?_ ?_
 refine qV 1 ?_ ?_
 refine vnext (L:=(bif l.isEmpty then [true,false] else [false]).map fun b=>(.bool b,h)) kq kq kq kq kq ?_
 intro r hr
 obtain ⟨b,rfl,hb0⟩:=nil_mem hr
 refine qN [(0,.imm l),(2,.full []),(4,.bool b)] h ?_ ?_
 refine wIf kq b kq (fun e=>?_) (fun _=>?_)
 have hl:=hb0 e
 subst hl
 refine qU 1 [(2,.full [])] ?_ ?_
 refine wOwn 2 1 dq rfl ?_
 exact wRet kq (own_fin rfl (.inr rfl) rfl hb hbl)
 kernel_rfl
 refine qK ?_ ?_
 refine qz [(0,.imm l),(2,.full [])] ?_ ?_
 refine qV 2 ?_ ?_
 refine vsymH (v:=.own h.length 0 l.length) (h':=h++[.arr 1 l 0]) kq kq (o_appnew (P:=cx.P) (t:=22) (l:=l) (h0:=h) kq kq ty22 ty9 ⟨by decide,by decide,hok⟩ hf) ?_
 refine qr 1 ?_ ?_
 refine qe ?_ ?_
 refine AThen_normal ?_
 exact wRet kq (own_fin rfl (.inr rfl) rfl hb hbl)
 iterate 9 kernel_rfl
noncomputable def cl109:Code:=bodyOf Tryz.f109
theorem clone109 (l:List AVal) (h:AHeap) (hok:rowOk 5 l=true) (hf:fits l.length 80=true) (hb:h.all (AObj.belO (h.length+1))=true) (hbl:belL (h.length+1) l=true) :
    CallsA cx 109 [.imm l] h (fun v h'=>v=.own h.length 0 l.length∧h'=h++[.arr 5 l 0]):=by
 refine func_raw (cx:=cx) 8 h.length [.tmp 2] Tryz.func109 rfl rfl rfl rfl rfl zq ?_
 show wpA cx 8 h.length (at_ cl109 []) _ _ _
 refine wSt [0] [(0,.imm l)] h kq rfl ?_
 refine qW 1 [(0,.imm l),(2,.full [])] h ?_ ?_
 refine qSeq ?_ ?_
 refine qV 1 ?_ ?_
 refine vnext (L:=(bif l.isEmpty then [true,false] else [false]).map fun b=>(.bool b,h)) kq kq kq kq kq ?_
 intro r hr
 obtain ⟨b,rfl,hb0⟩:=nil_mem hr
 refine qN [(0,.imm l),(2,.full []),(4,.bool b)] h ?_ ?_
 refine wIf kq b kq (fun e=>?_) (fun _=>?_)
 have hl:=hb0 e
 subst hl
 refine qU 1 [(2,.full [])] ?_ ?_
 refine wOwn 2 5 dq rfl ?_
 exact wRet kq (own_fin rfl (.inr rfl) rfl hb hbl)
 kernel_rfl
 refine qK ?_ ?_
 refine qz [(0,.imm l),(2,.full [])] ?_ ?_
 refine qV 2 ?_ ?_
 refine vsymH (v:=.own h.length 0 l.length) (h':=h++[.arr 5 l 0]) kq kq (o_appnew (P:=cx.P) (t:=23) (l:=l) (h0:=h) kq kq ty23 ty25 ⟨by decide,by decide,hok⟩ hf) ?_
 refine qr 1 ?_ ?_
 refine qe ?_ ?_
 refine AThen_normal ?_
 exact wRet kq (own_fin rfl (.inr rfl) rfl hb hbl)
 iterate 9 kernel_rfl
end Go.Proofs.YtdikgijfekfaoaaGreatDoor
namespace Go.Proofs.YtdikgijfekfaoaaGreatDoor
open Go.Proofs.YtdikgijfekfaoaaGreatDoor.Abs Go.RowKit Go.Maps Go.Sort
def sIns (x:List UInt8):List (List UInt8)→List (List UInt8)
  | []=>[x]
  | y::l=>bif sLess y x then y::sIns x l else x::y::l
def sSort:List (List UInt8)→List (List UInt8)
  | []=>[]
  | x::l=>sIns x (sSort l)
theorem sIns_perm (x:List UInt8):∀ l,(sIns x l).Perm (x::l)
  | []=>.refl _
  | y::l=>by
    simp only [sIns]
    cases sLess y x with
    | true=>exact ((sIns_perm x l).cons y).trans (.swap x y l)
    | false=>exact .refl _
theorem sSort_perm:∀ l,(sSort l).Perm l
  | []=>.refl _
  | x::l=>(sIns_perm x _).trans ((sSort_perm l).cons x)
theorem sLess_lt (x y:List UInt8):sLess x y=decide (x<y):=bytesLess_eq x y
theorem sIns_sorted (x:List UInt8):∀ l:List (List UInt8),l.Pairwise (fun a b=>leB a b=true)→(sIns x l).Pairwise (fun a b=>leB a b=true)
  | [],_=>by simp [sIns]
  | y::l,h=>by
    simp only [sIns,sLess_lt]
    have h':=List.pairwise_cons.1 h
    by_cases hlt:y<x
    · rw [decide_eq_true hlt]
      refine List.pairwise_cons.2 ⟨fun z hz=>?_,sIns_sorted x l h'.2⟩
      have:=(sIns_perm x l).mem_iff.1 hz
      simp only [List.mem_cons] at this
      rcases this with rfl|hz
      · simp only [leB,decide_eq_true_eq];exact List.le_of_lt hlt
      · exact h'.1 z hz
    · rw [decide_eq_false hlt]
      have hxy:x≤y:=List.not_lt.1 hlt
      refine List.pairwise_cons.2 ⟨fun z hz=>?_,h⟩
      simp only [List.mem_cons] at hz
      simp only [leB,decide_eq_true_eq]
      rcases hz with rfl|hz
      · exact hxy
      · have:=h'.1 z hz
        simp only [leB,decide_eq_true_eq] at this
        exact List.le_trans hxy this
theorem sSort_sorted:∀ l,(sSort l).Pairwise (fun a b=>leB a b=true)
  | []=>.nil
  | x::l=>sIns_sorted x _ (sSort_sorted l)
theorem sSort_merge {l l':List (List UInt8)} (h:l.Perm l'):l.mergeSort (fun x y=>decide (x≤y))=sSort l':=by
  have tr:∀ a b c:List UInt8,leB a b=true→leB b c=true→leB a c=true:=fun a b c h1 h2=>by simp only [leB,decide_eq_true_eq] at *;exact List.le_trans h1 h2
  have to:∀ a b:List UInt8,(leB a b || leB b a)=true:=fun a b=>by simp only [leB,Bool.or_eq_true,decide_eq_true_eq];exact List.le_total a b
  refine List.Perm.eq_of_pairwise (le:=fun a b=>leB a b=true) (fun a b _ _ h1 h2=>?_) (List.pairwise_mergeSort tr to l) (sSort_sorted l') (((List.mergeSort_perm l leB).trans h).trans (sSort_perm l').symm)
  simp only [leB,decide_eq_true_eq] at h1 h2
  exact List.le_antisymm h1 h2
def encKV (kv:List (List UInt8×AVal)):List (AVal×AVal):=kv.map fun p=>(.str p.1,p.2)
theorem ownsMap_of {ρ:Go.Proofs.YtdikgijfekfaoaaGreatDoor.Abs.Ren} {h:AHeap} {w:World} (wf:WF ρ h w) {m:Nat} {kv:List (List UInt8×AVal)} (hm:h[m]?=some (.map (encKV kv))) (hnd:(kv.map (·.1)).Nodup)
    (hlen:∀ p∈kv,p.1.length≤maxLen) (hsz:kv.length≤maxLen) :
    ∃ D:DataW Unit,w.ownsMap Tryz.prog 9 (fun _=>some (.nil,[])) (ρ.loc m).blk kv.length D∧(strKeys D).Perm (kv.map (·.1))∧Maps.size D=kv.length:=by
  obtain ⟨ms,clock,h1,h2,h3,h4⟩:=wf.obj m _ hm
  have hl:ms.size=kv.length:=by rw [h2];simp [encKV]
  have key:∀ (i:Nat) e,ms[i]?=some e→∃ p,kv[i]?=some p∧e.key=.string ⟨p.1.toArray⟩∧e.born<clock:=by
    intro i e he
    have hi:i<kv.length:=by rw [← hl];exact (Array.getElem?_eq_some_iff.1 he).1
    have hk:(encKV kv)[i]?=some (.str kv[i].1,kv[i].2):=by simp [encKV,hi]
    obtain ⟨q1,_,q3⟩:=h3 i _ e hk he
    refine ⟨kv[i],List.getElem?_eq_getElem hi,?_,q3⟩
    generalize e.key=v at q1
    cases q1
    rfl
  have keys:ms.toList.map (·.key)=kv.map fun p=>Value.string ⟨p.1.toArray⟩:=by
    apply List.ext_getElem?
    intro i
    simp only [List.getElem?_map,Array.getElem?_toList]
    cases he:ms[i]? with
    | none =>
      have:kv[i]?=none:=by
        rw [List.getElem?_eq_none_iff,← hl]
        simpa using he
      simp [this]
    | some e =>
      obtain ⟨p,hp,hk,_⟩:=key i e he
      simp [hp,hk]
  have kof:∀ s:List UInt8,s.length≤maxLen→keyOf Tryz.prog 9 (.string ⟨s.toArray⟩)=some (.string s):=by
    intro s hs
    have:(⟨s.toArray⟩:ByteArray).size≤maxLen:=by simpa [ByteArray.size] using hs
    simp [keyOf,Tryz.underlying9,mapKey,this]
  have rd1:∀ x∈ms.toList,∃ p∈kv,x.key=.string ⟨p.1.toArray⟩∧WideElems.rd (H:=Unit) Tryz.prog 9 (fun _=>some (.nil,[])) x=some (.string p.1,.nil):=by
    intro x hx
    obtain ⟨i,hi⟩:=List.getElem?_of_mem hx
    rw [Array.getElem?_toList] at hi
    obtain ⟨p,hp,hk,_⟩:=key i x hi
    have hpm:p∈kv:=List.mem_of_getElem? hp
    refine ⟨p,hpm,hk,?_⟩
    simp [WideElems.rd,hk,kof p.1 (hlen p hpm)]
  have ins:∀ (x:Lit×DataW Unit) l,(DataW.insert x l).Perm (x::l):=by
    intro x l
    induction l with
    | nil=>exact .refl _
    | cons y l ih =>
      simp only [DataW.insert]
      split
      · exact .refl _
      · exact (ih.cons y).trans (.swap x y l)
  have srt:∀ l:List (Lit×DataW Unit),(l.foldr DataW.insert []).Perm l:=by
    intro l
    induction l with
    | nil=>exact .refl _
    | cons x l ih=>exact (ins x _).trans (ih.cons x)
  refine ⟨_,⟨ms,clock,h1,⟨by rw [hl];exact hsz,⟨?_,?_,?_⟩,fun x hx=>?_⟩,by omega,rfl⟩,?_,?_⟩
  · intro x hx
    obtain ⟨i,hi⟩:=List.getElem?_of_mem hx
    rw [Array.getElem?_toList] at hi
    obtain ⟨_,_,_,hb⟩:=key i x hi
    exact hb
  · rw [List.nodup_iff_pairwise_ne,List.pairwise_iff_getElem]
    intro i j hi hj hij
    simp only [List.length_map,Array.length_toList] at hi hj
    simp only [List.getElem_map,Array.getElem_toList,ne_eq]
    intro e
    have:=h4 i j _ _ (Array.getElem?_eq_getElem oq) (Array.getElem?_eq_getElem hj) e
    omega
  · rw [keys,show (kv.map fun p=>Value.string ⟨p.1.toArray⟩)=(kv.map (·.1)).map (fun s=>Value.string ⟨s.toArray⟩) by simp]
    refine List.pairwise_map.2 (hnd.imp fun hne e=>hne ?_)
    simpa using e
  · obtain ⟨p,_,_,q⟩:=rd1 x hx
    exact ⟨_,q⟩
  · refine ((srt _).map _).trans ?_
    have:(ms.toList.map (WideElems.rg (H:=Unit) Tryz.prog 9 (fun _=>some (.nil,[])))).map (fun p=>strOf p.1)=kv.map (·.1):=by
      apply List.ext_getElem?
      intro i
      simp only [List.getElem?_map,Array.getElem?_toList]
      cases he:ms[i]? with
      | none =>
        have:kv[i]?=none:=by
          rw [List.getElem?_eq_none_iff,← hl]
          simpa using he
        simp [this]
      | some e =>
        obtain ⟨p,hp,hk,_⟩:=key i e he
        simp [hp,WideElems.rg,WideElems.rd,hk,kof p.1 (hlen p (List.mem_of_getElem? hp)),strOf]
    rw [← this]
  · show (List.foldr DataW.insert [] _).length=_
    rw [(srt _).length_eq]
    simp [hl]
theorem sorts113 (m:Nat):AnyZ.SortsIn Tryz.prog Tryz.sorted113_ren Fence.wide m :=
  ⟨fun blk off cap ss W hH hblk hsz=>callsIn_wide.2 (AnyM.slices_Sort_string Tryz.sort126 blk off cap ss W hH hblk hsz),
   fun p cap W=>callsIn_wide.2 (AnyM.slices_Sort_string_none Tryz.sort126 p cap W)⟩
def KeysGive (g:FuncId):Prop:=(∀ args w,(callFunc g args).run Tryz.prog w=.ok (.enter g args) w) ∧
  ∀ (w:World) (Bm b nn:Nat) (D0:DataW Unit),Bm<w.heap.size→w.cell? ⟨Bm,0,none⟩=some (.map (some b))→w.ownsMap Tryz.prog 9 (fun _=>some (.nil,[])) b nn D0 →
    SeqGives Fence.wide 2 Tryz.prog g #[.pointer (some ⟨Bm,0,none⟩)] encStr (fun ss=>ss.Perm (strKeys D0)) (Maps.size D0) w
theorem keys127:KeysGive 127:=⟨enters_of Tryz.func127 kq rfl,fun w Bm b nn D0 h1 h2 h3=>AnyZ.keys_gives (ρ:=Tryz.keys114_ren) { Tryz.keys114 with } Fence.wide _ trivial rfl oq Bm b nn D0 _ h1 h2 h3⟩
theorem keys138:KeysGive 138:=⟨enters_of Tryz.func138 kq rfl,fun w Bm b nn D0 h1 h2 h3=>AnyZ.keys_gives (ρ:=Tryz.keys123_ren) { Tryz.keys123 with } Fence.wide _ trivial rfl oq Bm b nn D0 _ h1 h2 h3⟩
theorem sorted_spec {g:FuncId} (hg:KeysGive g) {h:AHeap} {m o:Nat} {kv:List (List UInt8×AVal)} (ho:h[o]?=some (.box [.map m])) (hm:h[m]?=some (.map (encKV kv))) (hnd:(kv.map (·.1)).Nodup)
    (hlen:∀ p∈kv,p.1.length≤1000000000) (hsz:kv.length≤1000000000) :
    CallsA cx 113 [.fn (.func g) [] [.ptr o 0]] h (fun v h'=>v=.imm ((sSort (kv.map (·.1))).map .str)∧h'=h):=by
  refine CallsA_of_below (v:=.imm ((sSort (kv.map (·.1))).map .str)) ⟨_,Tryz.func113,rfl,rfl⟩ ⟨rfl,rfl⟩ ?_
  intro ρ w cargs wf _ hv
  have hmax:∀ n:Nat,n≤1000000000→n≤maxLen:=fun n hn=>Nat.le_trans hn dq
  obtain ⟨D,hown,hperm,hD⟩:=ownsMap_of wf hm hnd (fun p hp=>hmax _ (hlen p hp)) (hmax _ hsz)
  obtain ⟨u,rfl,hu⟩:=hv.one
  have hcv:∃ p,u=.func (.func g) #[] #[p]∧VR ρ h w (.ptr o 0) p:=by
    cases hu with
    | fn _ _ _ us vs hl hl' hu1 hv1 =>
      obtain ⟨us⟩:=us
      obtain ⟨vs⟩:=vs
      match us,vs,hl,hl',hv1 with
      | [],[p],_,_,hv2=>exact ⟨p,rfl,hv2 0 _ _ rfl rfl⟩
  obtain ⟨p,rfl,hp⟩:=hcv
  obtain ⟨c,t,q1,q2,q3⟩:=wf.obj o _ ho
  have hpe:p=.pointer (some ⟨(ρ.loc o).blk,0,none⟩):=by cases hp;rfl
  subst hpe
  have hlt:(ρ.loc o).blk<w.heap.size:=(Array.getElem?_eq_some_iff.1 q1).1
  have hcell:w.cell? ⟨(ρ.loc o).blk,0,none⟩=some (.map (some (ρ.loc m).blk)):=by
    simp only [List.length_cons,List.length_nil] at q2
    have hc0:c[0]?=some c[0]:=Array.getElem?_eq_getElem oq
    have:=q3 0 (.map m) c[0] rfl hc0
    have e:c[0]=.map (some (ρ.loc m).blk):=by
      generalize c[0]=v at this
      cases this
      rfl
    simp [World.cell?,q1,hc0,e]
  have hseq:=hg.2 w (ρ.loc o).blk (ρ.loc m).blk kv.length D hlt hcell hown
  refine (callsIn_wide.1 (AnyZ.sorted_in Tryz.sorted113 Fence.wide 5 trivial trivial trivial trivial rfl oq (sorts113 _) (enters_of Tryz.func126 kq rfl) g _ trivial hg.1 _ _ (by rw [hD];exact hmax _ hsz) (by rw [hD];omega) w hseq)).mono ?_
  rintro e w' ⟨v,ss,rfl,hS,hrow,_,hb⟩
  rw [sSort_merge (hS.trans hperm)] at hrow
  have hl:ss.length=(sSort (kv.map (·.1))).length:=((hS.trans hperm).trans (sSort_perm _).symm).length_eq
  obtain ⟨hx,⟨rfl,hn⟩|⟨gb,cap,cur,rfl,hbase,hgb,hcap,hcm,hcs,hcur⟩⟩:=hrow
  · have hz:sSort (kv.map (·.1))=[]:=List.eq_nil_of_length_eq_zero oq
    refine ⟨_,ρ.I,rfl,hb,fun _ _ h=>h,fun _ _ h=>.inl h,fun _=>?_⟩
    rw [hz]
    exact .imm [] none 0 0 0 0 (fun _ _=>undef) (Nat.le_refl _) zq zq zq zq
  · refine ⟨_,fun b j=>ρ.I b j∨b=gb,rfl,hb,fun _ _ h=>.inl h,fun b j hI=>?_,fun _=>?_⟩
    · rcases hI with h|rfl
      · exact .inl h
      · exact .inr ⟨hbase,(Array.getElem?_eq_some_iff.1 hgb).1⟩
    · rw [show (Value.slice (some ⟨gb,0,none⟩) ss.length cap)=Value.slice (some ⟨gb,0,none⟩) ((sSort (kv.map (·.1))).map AVal.str).length cap by rw [List.length_map,← hl]]
      refine .imm _ _ cap 1 gb 0 (fun i _=>encStr ((sSort (kv.map (·.1))).getD i [])) (by rw [List.length_map,← hl];exact hcap) (fun _=>rfl) ?_ ?_ ?_
      · intro i x hx
        simp only [List.getElem?_map,Option.map_eq_some_iff] at hx
        obtain ⟨s,_,rfl⟩:=hx
        rfl
      · intro i x j y hx hy
        simp only [List.getElem?_map,Option.map_eq_some_iff] at hx
        obtain ⟨s,hs,rfl⟩:=hx
        have hj:j=0:=by
          have:=(List.getElem?_eq_some_iff.1 hy).1
          simp [AVal.cells] at this
          exact this
        subst hj
        refine ⟨.inr rfl,?_⟩
        have hi:i<(sSort (kv.map (·.1))).length:=(List.getElem?_eq_some_iff.1 hs).1
        have hc:cur[i]?=some (encStr s):=by
          have h1:(cur.toList.take (ss.length * 1))[i]?=some (encStr s):=by rw [hcur,List.getElem?_map,hs];rfl
          rw [List.getElem?_take] at h1
          split at h1
          · rwa [Array.getElem?_toList] at h1
          · simp at h1
        have hg':(sSort (kv.map (·.1))).getD i []=s:=by rw [List.getD_eq_getElem?_getD,hs];rfl
        rw [hg']
        simp [World.cell?,hgb,hc]
      · intro i x j y hx hy
        simp only [List.getElem?_map,Option.map_eq_some_iff] at hx
        obtain ⟨s,hs,rfl⟩:=hx
        have hj:j=0:=by
          have:=(List.getElem?_eq_some_iff.1 hy).1
          simp [AVal.cells] at this
          exact this
        subst hj
        simp [AVal.cells] at hy
        subst hy
        have hg':(sSort (kv.map (·.1))).getD i []=s:=by rw [List.getD_eq_getElem?_getD,hs];rfl
        show VR _ h w' (.str s) (encStr ((sSort (kv.map (·.1))).getD i []))
        rw [hg']
        exact .str s
end Go.Proofs.YtdikgijfekfaoaaGreatDoor
namespace Go.Proofs.YtdikgijfekfaoaaGreatDoor
open Go.Proofs.YtdikgijfekfaoaaGreatDoor.Abs Go.RowKit Go.Maps
theorem mclone65 {h:AHeap} {o:Nat} {es:List (AVal×AVal)} (ho:h[o]?=some (.map es)):CallsA cx 65 [.map o] h (fun v h'=>v=.map h.length∧h'=h++[.map es]):=by
  refine ⟨⟨_,Tryz.func65,rfl,rfl⟩,fun ρ w cargs wf _ hv=>?_⟩
  obtain ⟨u,rfl,hu⟩:=hv.one
  obtain ⟨ms,clock,q1,q2,q3,q4⟩:=wf.obj o _ ho
  have hu':u=.map (some (ρ.loc o).blk):=by cases hu;rfl
  subst hu'
  refine (AnyW.maps_Clone Tryz.mclone65 _ ms clock w q1).mono ?_
  rintro e w' ⟨rfl,rfl⟩
  have hst:=step_gen (h':=h++[.map es]) (w':=w.alloc (.map ms clock)) wf (Fr.refl ρ h w) h.length (.map es) ⟨w.heap.size,0,0⟩ ρ.I (getElem?_append_one _ _) (fun o' ho=>get_append_other _ _ _ ho)
    rfl rfl rfl zq (fun b hb _=>Below.heap_alloc w _ b hb) zq
    (fun b j hI=>⟨hI,cell_of_heap (Below.heap_alloc w _ b (wf.immlt b j hI)) j⟩) (fun b j hI=>.inl hI)
    (fun _=>.inl ⟨Nat.le_refl _,by simp⟩) (fun j _ hI=>absurd (wf.immlt _ j hI) zq)
    (no_iter_of_new wf)
    (fun le=>⟨ms,clock,Go.heap_alloc_new w _,q2,fun i kv e a b=>⟨(q3 i kv e a b).1.mono le,(q3 i kv e a b).2.1.mono le,(q3 i kv e a b).2.2⟩,q4⟩)
  refine ⟨_,_,_,_,rfl,⟨rfl,rfl⟩,?_,hst.1,hst.2.1,hst.2.2⟩
  have:=VR.map (ρ:=ρ.put h.length ⟨w.heap.size,0,0⟩ ρ.I) (h:=h++[.map es]) (w:=w.alloc (.map ms clock)) h.length es (getElem?_append_one _ _)
  rw [Ren.put_same] at this
  exact this
def cloneRun (sz by':Nat):List AVal→AHeap→Option (AVal×AHeap)
  | [.imm l],h=>bif rowOk sz l && fits l.length by' && h.all (AObj.belO (h.length+1)) && belL (h.length+1) l then some (.own h.length 0 l.length,h++[.arr sz l 0]) else none
  | _,_=>none
def mcloneRun:List AVal→AHeap→Option (AVal×AHeap)
  | [.map o],h=>match h[o]? with
    | some (.map es)=>some (.map h.length,h++[.map es])
    | _=>none
  | _,_=>none
def kvOf:List (AVal×AVal)→Option (List (List UInt8×AVal))
  | []=>some []
  | (.str s,v)::l=>match kvOf l with
    | some r=>some ((s,v)::r)
    | none=>none
  | _=>none
theorem kvOf_enc:∀ {es:List (AVal×AVal)} {kv:List (List UInt8×AVal)},kvOf es=some kv→es=encKV kv
  | [],kv,h=>by simp [kvOf] at h;subst h;rfl
  | (x,v)::l,kv,h=>by
    cases x with
    | str s =>
      simp only [kvOf] at h
      split at h
      · rename_i r hr
        simp only [Option.some.injEq] at h
        subst h
        rw [kvOf_enc hr];rfl
      · simp at h
    | _=>simp [kvOf] at h
def ndS:List (List UInt8)→Bool
  | []=>true
  | x::l=>!(l.contains x) && ndS l
theorem ndS_nodup:∀ {l:List (List UInt8)},ndS l=true→l.Nodup
  | [],_=>.nil
  | x::l,h=>by
    simp only [ndS,Bool.and_eq_true,Bool.not_eq_true',List.contains_eq_mem,decide_eq_false_iff_not] at h
    exact List.nodup_cons.2 ⟨h.1,ndS_nodup h.2⟩
def keysOk (kv:List (List UInt8×AVal)):Bool:=ndS (kv.map (·.1)) && kv.all (fun p=>Nat.ble p.1.length 1000000000) && Nat.ble kv.length 1000000000
def sortedRun:List AVal→AHeap→Option (AVal×AHeap)
  | [.fn (.func g) [] [.ptr o 0]],h=>bif Nat.beq g 127 || Nat.beq g 138 then match h[o]? with
    | some (.box [.map m])=>match h[m]? with
      | some (.map es)=>match kvOf es with
        | some kv=>bif keysOk kv then some (.imm ((sSort (kv.map (·.1))).map .str),h) else none
        | none=>none
      | _=>none
    | _=>none
    else none
  | _,_=>none
def hookRun:XRun:=fun f args h =>
  bif Nat.beq f 84 then cloneRun 1 16 args h
  else bif Nat.beq f 109 then cloneRun 5 80 args h
  else bif Nat.beq f 65 then mcloneRun args h
  else bif Nat.beq f 113 then sortedRun args h
  else none
def hook:XCall:=fun f args h=>bif Nat.beq f 84 || Nat.beq f 109 || Nat.beq f 65 || Nat.beq f 113 then xcall (fun _ _ _=>none) hookRun (fun _=>false) f args h else none
theorem cloneRun_some {sz by':Nat} {args:List AVal} {h:AHeap} {r:AVal×AHeap} (hr:cloneRun sz by' args h=some r) :
    ∃ l,args=[.imm l]∧rowOk sz l=true∧fits l.length by'=true∧h.all (AObj.belO (h.length+1))=true∧belL (h.length+1) l=true∧r=(.own h.length 0 l.length,h++[.arr sz l 0]):=by
  unfold cloneRun at hr
  split at hr
  · rename_i h' l
    cases hc:rowOk sz l && fits l.length by' && h.all (AObj.belO (h.length+1)) && belL (h.length+1) l with
    | false=>rw [hc] at hr;simp at hr
    | true =>
      rw [hc] at hr
      simp only [cond_true,Option.some.injEq] at hr
      simp only [Bool.and_eq_true] at hc
      exact ⟨l,rfl,hc.1.1.1,hc.1.1.2,hc.1.2,hc.2,hr.symm⟩
  · simp at hr
theorem sortedRun_ok {args:List AVal} {h:AHeap} {r:AVal×AHeap} (hr:sortedRun args h=some r):CallsA cx 113 args h fun v h'=>v=r.1∧h'=r.2:=by
  unfold sortedRun at hr
  split at hr <;> try (simp at hr;done)
  rename_i _ g o
  cases hg:Nat.beq g 127 || Nat.beq g 138 with
  | false=>rw [hg] at hr;simp at hr
  | true =>
    rw [hg] at hr
    simp only [cond_true] at hr
    split at hr <;> try (simp at hr;done)
    rename_i m ho
    split at hr <;> try (simp at hr;done)
    rename_i es hm
    split at hr <;> try (simp at hr;done)
    rename_i kv hk
    cases hc:keysOk kv with
    | false=>rw [hc] at hr;simp at hr
    | true =>
      rw [hc] at hr
      simp only [cond_true,Option.some.injEq] at hr
      subst hr
      have:=kvOf_enc hk
      subst this
      simp only [keysOk,Bool.and_eq_true,List.all_eq_true,Nat.ble_eq] at hc
      refine sorted_spec ?_ ho hm (ndS_nodup hc.1.1) hc.1.2 hc.2
      simp only [Bool.or_eq_true] at hg
      rcases hg with hg|hg
      · rw [Nat.eq_of_beq_eq_true hg];exact keys127
      · rw [Nat.eq_of_beq_eq_true hg];exact keys138
theorem hookRun_ok:RunOk cx hookRun:=by
  intro f args h r hr
  unfold hookRun at hr
  cases h1:Nat.beq f 84 with
  | true =>
    rw [h1] at hr
    obtain ⟨l,rfl,q1,q2,q3,q4,rfl⟩:=cloneRun_some hr
    rw [Nat.eq_of_beq_eq_true h1]
    exact clone84 l h q1 q2 q3 q4
  | false =>
    rw [h1] at hr
    simp only [cond_false] at hr
    cases h2:Nat.beq f 109 with
    | true =>
      rw [h2] at hr
      obtain ⟨l,rfl,q1,q2,q3,q4,rfl⟩:=cloneRun_some hr
      rw [Nat.eq_of_beq_eq_true h2]
      exact clone109 l h q1 q2 q3 q4
    | false =>
      rw [h2] at hr
      simp only [cond_false] at hr
      cases h3:Nat.beq f 65 with
      | true =>
        rw [h3] at hr
        simp only [cond_true] at hr
        rw [Nat.eq_of_beq_eq_true h3]
        unfold mcloneRun at hr
        split at hr <;> try (simp at hr;done)
        split at hr <;> try (simp at hr;done)
        rename_i es ho
        simp only [Option.some.injEq] at hr
        subst hr
        exact mclone65 ho
      | false =>
        rw [h3] at hr
        simp only [cond_false] at hr
        cases h4:Nat.beq f 113 with
        | true =>
          rw [h4] at hr
          rw [Nat.eq_of_beq_eq_true h4]
          exact sortedRun_ok hr
        | false=>rw [h4] at hr;simp at hr
theorem hook_ok:∀ f args h r,hook f args h=some r→FCall cx f args h r.1 r.2.1 r.2.2:=by
  intro f args h r hr
  unfold hook at hr
  cases hc:Nat.beq f 84 || Nat.beq f 109 || Nat.beq f 65 || Nat.beq f 113 with
  | false=>rw [hc] at hr;simp at hr
  | true =>
    rw [hc] at hr
    simp only [cond_true] at hr
    exact xcall_sound (raw:=fun _=>false) (hook:=fun _ _ _=>none) zq hookRun_ok f args h r hr
end Go.Proofs.YtdikgijfekfaoaaGreatDoor
namespace Go.Proofs.YtdikgijfekfaoaaGreatDoor
open Go.Proofs.YtdikgijfekfaoaaGreatDoor.Abs
set_option maxRecDepth 100000
theorem no_goroutines : Tryz.prog.funcs.toList.all (fun fn => !(fn.name == "runtime.NumGoroutine")) = true := by kernel_rfl
theorem names_fine : ∀ (f : FuncId) (fn : Func), cx.P.funcs[f]? = some fn → (fn.name == "runtime.NumGoroutine") = false := by
  intro f fn hf
  have hm:fn∈Tryz.prog.funcs.toList:=Array.mem_toList_iff.2 (Array.mem_of_getElem? hf)
  have:=List.all_eq_true.1 no_goroutines fn hm
  simpa using this
theorem mixes:cx.P.follows .mixedOrders=true:=by kernel_rfl
def xp:XP:=⟨1000,fun _=>false,fun f g=>(Nat.beq f 68 || Nat.beq f 77) && Nat.beq g 67⟩
theorem lives_run:xfun cx.P cx.G hook xp 60 false 18 [] []=some (.bool true,[]):=by kernel_rfl
theorem lives_spec:CallsP cx 18 [] (.bool true):=xfun_sound mixes names_fine hook_ok 60 false 18 [] [] _ lives_run
end Go.Proofs.YtdikgijfekfaoaaGreatDoor
namespace Go.Proofs.YtdikgijfekfaoaaGreatDoor
open Go.Proofs.YtdikgijfekfaoaaGreatDoor.Abs
set_option maxRecDepth 20000
set_option maxHeartbeats 4000000
noncomputable def c3:Code:=bodyOf Tryz.f3
end Go.Proofs.YtdikgijfekfaoaaGreatDoor
namespace Go.Proofs.YtdikgijfekfaoaaGreatDoor
open Go.Proofs.YtdikgijfekfaoaaGreatDoor.Abs
theorem knobs:ownKnob Tryz.prog.godebug=none:=by kernel_rfl
theorem laysOut:laidOutB Tryz.prog=true:=by kernel_rfl
def plainTs:List TypeId:=[3,4,9,22,23,25,26,206,207]
theorem plain_ts:plainB Tryz.prog plainTs=true:=by kernel_rfl
def laidL:List (String×DataW Unit):=Rows.typesFormsRow.laid
def kwD : String × DataW Unit := laidL.getD 6 ("", .nil)
def syD : String × DataW Unit := laidL.getD 7 ("", .nil)
theorem noHandles:laidL.filter (fun x=>x.2.handleName?.isSome)=[]:=by kernel_rfl
theorem kw_in:(kwD.1,kwD.2)∈laidL:=List.mem_of_getElem? (i:=6) rfl
theorem sy_in:(syD.1,syD.2)∈laidL:=List.mem_of_getElem? (i:=7) rfl
theorem kw_glob:Tryz.prog.globalNamed kwD.1=some 4:=by kernel_rfl
theorem sy_glob:Tryz.prog.globalNamed syD.1=some 5:=by kernel_rfl
theorem kw_type:(Tryz.prog.globals[4]?).map (·.type)=some 206:=by kernel_rfl
theorem sy_type:(Tryz.prog.globals[5]?).map (·.type)=some 207:=by kernel_rfl
theorem kw_cells:(dOf kwD.2).cells=kwCells:=by kernel_rfl
theorem sy_cells:(dOf syD.2).cells=syCells:=by kernel_rfl
theorem tables {W:World} (hL:laidMetH Tryz.prog laidL W):Globs cx (allI W) W:=by
  intro g cs hg
  have hg':(bif Nat.beq g 4 then some kwCells else bif Nat.beq g 5 then some syCells else none)=some cs:=hg
  cases h4:Nat.beq g 4 with
  | true =>
    rw [h4] at hg'
    simp only [cond_true,Option.some.injEq] at hg'
    subst hg'
    rw [Nat.eq_of_beq_eq_true h4,← kw_cells]
    exact laid_glob noHandles hL kw_in kw_glob kw_type plain_ts rfl
  | false =>
    rw [h4] at hg'
    simp only [cond_false] at hg'
    cases h5:Nat.beq g 5 with
    | true =>
      rw [h5] at hg'
      simp only [cond_true,Option.some.injEq] at hg'
      subst hg'
      rw [Nat.eq_of_beq_eq_true h5,← sy_cells]
      exact laid_glob noHandles hL sy_in sy_glob sy_type plain_ts rfl
    | false=>rw [h5] at hg';simp at hg'
theorem ints_list {H:Type}:∀ {elems:List (DataW H)},(∀ (i:Nat) x,elems[i]?=some x→∃ n,x=.lit (.int .i64 n)∧-9223372036854775808≤n∧n≤9223372036854775807)→∃ l:List Int,dOfL elems=l.map (.int .i64)∧i64L l∧l.length≤Rows.uptoBulkAll elems
  | [],_=>⟨[],rfl,by simp [i64L],Nat.le_refl _⟩
  | x::r,key=>by
    obtain ⟨n,rfl,hn⟩:=key 0 x rfl
    obtain ⟨l,h1,h2,h3⟩:=ints_list (elems:=r) (fun i y hy=>key (i+1) y (by simpa using hy))
    refine ⟨n::l,by simp [dOfL,dOf,h1],?_,by simp [Rows.uptoBulkAll,Rows.uptoBulk];omega⟩
    intro y hy
    simp only [List.mem_cons] at hy
    rcases hy with rfl|hy
    · exact hn
    · exact h2 y hy
section
variable {H:Type} {enc:TypeId×Value→H} {w:World} {sp:Nat→Bool} {held:Bool}
theorem ints_of {fuel:Nat} {cs:List Value} {d:DataW H} {ps:List MemPlace} (h:DataW.trod enc Tryz.prog w 0 sp held fuel 26 cs=some (d,ps)):∃ l:List Int,dOf d=.imm (l.map (.int .i64))∧i64L l∧l.length+1≤Rows.uptoBulk d:=by
  cases fuel with
  | zero=>simp [DataW.trod] at h
  | succ fuel =>
    rcases trod_slice Tryz.underlying26 h with ⟨_,rfl⟩|⟨a,len,cap,elems,spare,_,rfl,_,_,hel⟩
    · exact ⟨[],rfl,by simp [i64L],by simp [Rows.uptoBulk]⟩
    · have key:∀ (i:Nat) x,elems[i]?=some x→∃ n,x=.lit (.int .i64 n)∧-9223372036854775808≤n∧n≤9223372036854775807:=fun i x hx=>by
        obtain ⟨cs',ps',_,q⟩:=hel i x hx
        cases fuel with
        | zero=>simp [DataW.trod] at q
        | succ fuel =>
          obtain ⟨n,_,rfl,hw⟩:=trod_int Tryz.underlying3 q
          refine ⟨n,rfl,?_⟩
          simpa [Lit.wf,IntKind.min,IntKind.max,IntKind.signed,IntKind.bits] using hw
      obtain ⟨l,h1,h2,h3⟩:=ints_list key
      exact ⟨l,by simp [dOf,h1],h2,by simp only [Rows.uptoBulk];omega⟩
end
theorem readable (t:TypeId) (h:([25,26,3]:List TypeId).contains t=true):Tryz.prog.readableRec t=true∧t<Tryz.prog.types.size:=by
  simp at h
  rcases h with rfl|rfl|rfl
  · exact ⟨by kernel_rfl,of_decide_eq_true kq⟩
  · exact ⟨by kernel_rfl,of_decide_eq_true kq⟩
  · exact ⟨by kernel_rfl,of_decide_eq_true kq⟩
noncomputable def laidW (os:Os):World:=World.laidAll Tryz.prog os laidL
theorem laidW_met (os:Os) (args:Array Value):laidMet Tryz.prog laidL ((laidW os).forCall (fun _ _=>0) ⟨#[],args,[]⟩).memory:=laidMet_laidAll _ kq kq
end Go.Proofs.YtdikgijfekfaoaaGreatDoor
namespace Go.Proofs.YtdikgijfekfaoaaGreatDoor.Abs
section
variable {cx:Cx} {n m:Nat} {Q:APost} {T:Tm} {h:AHeap} {l:List BOp} {KD:List (List Nat×List Nat)→Tm→AHeap→Prop} {s:DSt}
theorem dcallA {f:FuncId} {args:List AVal} {hs hs' rest:AHeap} {v:AVal} {L:List Nat} (hc:isCons l=true) (hg:bguard s.2.1 (hdB l).g=some true) (hal:isAl (hdB l).op=false) (ho:aop cx.P s.2.2.1 (aev cx.G s.2.1) (hdB l).op=none) (ha:acallee (aev cx.G s.2.1) (hdB l).op=some (f,args))
    (hS:s.2.2.1=hs++rest) (hq:CallsA cx f args hs fun v' h'=>v'=v∧h'=hs') (hb:belL hs.length args=true) (hbo:hs.all (AObj.belO hs.length)=true) (hl:hs'.length=hs.length) (hv:v.bel hs.length=true) (hbo':hs'.all (AObj.belO hs.length)=true) (hn:noIters rest=true)
    (hL:List.range hs.length=L) (hne:L.isEmpty=false) (hk:bdr cx l.tail (s.1,aput s.2.1 (hdB l).dst v,hs'++rest,s.2.2.2++[(L,L)]) KD):bdr cx l s KD:=by
  subst hL
  refine dcall (h':=hs'++rest) hc hg hal ho ha ⟨?_,?_,?_⟩ hk
  · intro o hn
    rw [hS]
    have:hs.length≤o:=by simpa using hn
    rw [List.getElem?_append_right oq,List.getElem?_append_right oq,hl]
  · rw [hS]
    exact CallsA_pre hq hb hbo hl hv hbo' hn
  · intro e
    rw [e] at hne
    simp at hne
end
section
variable {P:Program} {ev:Operand→AVal} {op:Op} {h:AHeap}
theorem rowOk_map {α:Type} {enc:α→AVal} {sz:Nat} (hok:∀ q,((enc q).cells.length==sz && (enc q).cells.all AVal.cellOk)=true) (l:List α):rowOk sz (l.map enc)=true:=by
  unfold rowOk
  rw [List.all_eq_true]
  intro x hx
  obtain ⟨q,_,rfl⟩:=List.mem_map.1 hx
  exact hok q
end
end Go.Proofs.YtdikgijfekfaoaaGreatDoor.Abs
namespace Go.Proofs.YtdikgijfekfaoaaGreatDoor.Abs
section
variable {cx:Cx} {l:List BOp} {S:Tm×AHeap} {K:Tm→AHeap→Prop}
theorem vcallH {f:FuncId} {args:List AVal} {v:AVal} {h':AHeap} (H0:AHeap) (hc:isCons l=true) (hg:bguard S.1 (hdB l).g=some true) (ho:aop cx.P S.2 (aev cx.G S.1) (hdB l).op=none) (ha:acallee (aev cx.G S.1) (hdB l).op=some (f,args)) (hS:S.2=H0) (hq:CallsA cx f args H0 fun v' h''=>v'=v∧h''=h')
    (hk:bS cx l.tail (aput S.1 (hdB l).dst v,h') K):bS cx l S K:=by
  subst hS
  exact vcall hc hg ho ha hq (by rintro v' h'' ⟨rfl,rfl⟩;exact hk)
end
end Go.Proofs.YtdikgijfekfaoaaGreatDoor.Abs
namespace Go.Proofs.YtdikgijfekfaoaaGreatDoor.Abs
open Go
section
variable {cx:Cx} {h:AHeap}
theorem CallsA_at {f:FuncId} {args0 args:List AVal} {v0 v:AVal} {hs hs' h':AHeap} (L:List Nat) (hc:CallsA cx f args0 hs fun v' g=>v'=v0∧g=hs') (hl:hs.length=L.length) (hnd:L.Nodup) (hb:belL hs.length args0=true) (hbo:hs.all (AObj.belO hs.length)=true)
    (hobj:L.map (fun o=>h[o]?)=(renH (lendR L h.length) hs).map some) (hn:noIters h=true) (ha:renL (lendR L h.length) args0=args) (hv:v0.ren (lendR L h.length)=v) (hh:lendH h L hs'=h') :
    CallsA cx f args h fun v' g=>v'=v∧g=h':=by
  subst ha hv hh
  have le:Lend h L hs:=by
    refine ⟨hl,hnd,?_,hbo,fun o m left ho=>(noIters_get hn ho).elim⟩
    intro i o x hi hx
    have e:=congrArg (fun l=>l[i]?) hobj
    simp only [renH_map,List.getElem?_map,hi,hx,Option.map_some] at e
    exact Option.some.inj e
  exact CallsA_lend le hc hb (by rintro v' g _ ⟨rfl,rfl⟩;exact ⟨rfl,rfl⟩)
end
end Go.Proofs.YtdikgijfekfaoaaGreatDoor.Abs
namespace Go.Proofs.YtdikgijfekfaoaaGreatDoor.Abs
open Go
section
variable {cx:Cx} {l:List BOp} {S:RSt} {K:Tm→AHeap→Prop}
theorem vZ {f:FuncId} {args args':List AVal} {v:AVal} {F:AHeap} (hc:isCons l=true) (hg:bguard S.1 (hdB l).g=some true) (ho:aop cx.P S.2 (aev cx.G S.1) (hdB l).op=none) (ha:acallee (aev cx.G S.1) (hdB l).op=some (f,args))
    (hq:CallsP cx f args' v) (H0:AHeap) (hH:S.2=H0) (hf:frzL H0 args=args') (hb:belL 0 args'=true) (hF:frzH H0 (ownsL args)=F)
    (hk:bS cx l.tail (aput S.1 (hdB l).dst v,F) K):bS cx l S K:=by
  subst hH hF
  exact vcall hc hg ho ha (q:=fun v' h'=>v'=v∧h'=frzH S.2 (ownsL args)) (CallsA_pure (by rw [hf];exact hq) (by rw [hf];exact hb) ⟨rfl,rfl⟩) (by rintro v' h' ⟨rfl,rfl⟩;exact hk)
variable {f:FuncId} {args args':List AVal} {h:AHeap} {Q:AVal→AHeap→Prop}
theorem CallsA_lock {v:AVal} {H F:AHeap} (L:List Nat) (hc:CallsA cx f args h fun v' h'=>v'=v∧h'=H) (hF:frzH H L=F):CallsA cx f args h fun v' h'=>v'=v∧h'=F:=by
  subst hF
  refine ⟨hc.1,fun ρ w cargs wf hg hv=>(hc.2 ρ w cargs wf hg hv).mono ?_⟩
  rintro e w' ⟨ρ',cv,v',h',rfl,⟨rfl,rfl⟩,hvv,wf',le',fr'⟩
  obtain ⟨ρ1,q1,q2,q3,_⟩:=freeze_all L wf' fr'
  exact ⟨ρ1,cv,v',_,rfl,⟨rfl,rfl⟩,hvv.mono q2,q1,le'.trans q2,q3⟩
theorem CallsA_weak (hc:CallsA cx f args' h Q) (hw:∀ ρ w vs,VRs ρ h w args vs→VRs ρ h w args' vs):CallsA cx f args h Q :=
  ⟨hc.1,fun ρ w cargs wf hg hv=>hc.2 ρ w cargs wf hg (hw ρ w cargs hv)⟩
theorem weak_one {x y:AVal} (hw:∀ ρ w v,VR ρ h w x v→VR ρ h w y v):∀ ρ w vs,VRs ρ h w [x] vs→VRs ρ h w [y] vs:=by
  intro ρ w vs hv
  refine ⟨hv.1,fun i z v hz hv'=>?_⟩
  match i with
  | 0=>simp at hz;subst hz;exact hw ρ w v (hv.2 0 x v rfl hv')
  | i+1=>simp at hz
theorem weak_5 {a b c d e:AVal}:∀ ρ w v,VR ρ h w (.agg [a,b,c,d,e]) v→VR ρ h w (.agg [a,b,c,.any,.any]) v:=by
  intro ρ w v hv
  cases hv with
  | agg _ vs hl hx =>
    refine .agg _ vs hl fun i x y h1 h2=>?_
    match i with
    | 0=>simp at h1;subst h1;exact hx 0 _ y rfl h2
    | 1=>simp at h1;subst h1;exact hx 1 _ y rfl h2
    | 2=>simp at h1;subst h1;exact hx 2 _ y rfl h2
    | 3=>simp at h1;subst h1;exact .any _
    | 4=>simp at h1;subst h1;exact .any _
    | i+5=>simp at h1
theorem CallsA_head {a b c d e v:AVal} (hc:CallsP cx f [.agg [a,b,c,.any,.any]] v) (hb:belL 0 [a,b,c]=true) (ho:ownsL [a,b,c]=[]) (hf:frzL h [a,b,c]=[a,b,c]):CallsA cx f [.agg [a,b,c,d,e]] h fun v' h'=>v'=v∧h'=h:=by
  simp only [belL,Bool.and_true,Bool.and_eq_true] at hb
  simp only [ownsL,List.append_nil,List.append_eq_nil_iff] at ho
  simp only [frzL,List.cons.injEq,and_true] at hf
  refine CallsA_weak (args':=[.agg [a,b,c,.any,.any]]) ?_ (weak_one weak_5)
  refine CallsA_pure (v:=v) (by simp only [frzL,AVal.frz,hf.1,hf.2.1,hf.2.2];exact hc) (by simp only [frzL,AVal.frz,hf.1,hf.2.1,hf.2.2,belL,AVal.bel,hb.1,hb.2.1,hb.2.2];rfl) ⟨rfl,?_⟩
  simp only [ownsL,AVal.owns,ho.1,ho.2.1,ho.2.2,List.append_nil]
  rfl
end
end Go.Proofs.YtdikgijfekfaoaaGreatDoor.Abs
namespace Go.Proofs.YtdikgijfekfaoaaGreatDoor.Abs
open Go
theorem grows_ren (r:Nat→Nat) {l l':Loc} {x y:AObj} (h:x.grows l l' y):x.grows l l' (y.ren r):=by
  cases x <;> cases y <;> simp_all [AObj.grows,AObj.ren,renL_map]
section
variable {cx:Cx} {n m:Nat} {T:Tm} {h:AHeap} {Q:APost}
theorem wRenM (ks:List Nat) (T':Tm) (h':AHeap) (hpre:∀ o,o<m→ks[o]?=some o) (hnd:ks.Nodup) (hT:∀ p∈T,∀ o∈p.2.refs,o∈ks) (hO:∀ o∈ks,objOk ks h[o]?) (eT:renT (fun o=>ks.idxOf o) T=T') (eh:keepH (fun o=>ks.idxOf o) h ks=h') {d:Code}
    (hk:wpA cx n m d Q T' h'):wpA cx n m d Q T h:=by
  intro E B ρ a w hm hr
  subst eT eh
  let r:Nat→Nat:=fun o=>ks.idxOf o
  let ρ':Ren:=⟨fun i=>ρ.loc (ks.getD i 0),ρ.I⟩
  have hin:∀ o∈ks,∀ y,h[o]?=some y→y.isIter=false∧(keepH r h ks)[r o]?=some (y.ren r)∧ρ'.loc (r o)=ρ.loc o:=by
    intro o ho y hy
    have h1:=hO o ho
    rw [hy] at h1
    have hlt:ks.idxOf o<ks.length:=List.idxOf_lt_length_iff.2 ho
    have hge:ks[ks.idxOf o]=o:=List.getElem_idxOf hlt
    refine ⟨h1.1,?_,?_⟩
    · rw [keepH_map,List.getElem?_map,List.getElem?_eq_getElem hlt,hge]
      simp [hy,renO]
    · show ρ.loc (ks.getD (ks.idxOf o) 0)=ρ.loc o
      rw [List.getD_eq_getElem?_getD,List.getElem?_eq_getElem hlt,hge];rfl
  have hout:∀ (i:Nat) x,(keepH r h ks)[i]?=some x→∃ o y,o∈ks∧(∃ hi:i<ks.length,ks[i]=o)∧h[o]?=some y∧x=y.ren r∧ρ'.loc i=ρ.loc o:=by
    intro i x hx
    rw [keepH_map,List.getElem?_map] at hx
    cases hq:ks[i]? with
    | none=>rw [hq] at hx;simp at hx
    | some o =>
      rw [hq] at hx
      obtain ⟨hi,he⟩:=List.getElem?_eq_some_iff.1 hq
      have hmem:o∈ks:=he▸List.getElem_mem hi
      have h1:=hO o hmem
      cases hy:h[o]? with
      | none=>rw [hy] at h1;exact h1.elim
      | some y =>
        simp [hy,renO] at hx
        refine ⟨o,y,hmem,⟨hi,he⟩,hy,hx.symm,?_⟩
        show ρ.loc (ks.getD i 0)=ρ.loc o
        rw [List.getD_eq_getElem?_getD,hq];rfl
  have hwf:WF ρ' (keepH r h ks) w:=by
    refine ⟨?_,?_,?_,hr.wf.immlt,?_⟩
    · intro i x hx
      obtain ⟨o,y,h1,_,h3,rfl,h5⟩:=hout i x hx
      rw [h5]
      have h6:=hO o h1
      rw [h3] at h6
      exact (hr.wf.obj o y h3).ren2 h6.1 (fun _ _ h=>h) (fun o' ho' y' hy'=>hin o' (h6.2 o' ho') y' hy')
    · intro i x i' x' hx hx' hb hb' he
      obtain ⟨o,y,h1,⟨hi,e1⟩,h3,rfl,h5⟩:=hout i x hx
      obtain ⟨o',y',h1',⟨hi',e1'⟩,h3',rfl,h5'⟩:=hout i' x' hx'
      rw [ren_hasBlk,h5] at hb
      rw [ren_hasBlk,h5'] at hb'
      rw [h5,h5'] at he
      have:=hr.wf.inj o y o' y' h3 h3' hb hb' he
      exact nodup_inj hnd hi hi' (by rw [e1,e1',this])
    · intro i x hx hb
      obtain ⟨o,y,h1,_,h3,rfl,h5⟩:=hout i x hx
      rw [ren_hasBlk,h5] at hb
      rw [h5];exact hr.wf.lt o y h3 hb
    · intro i x j hx hb hI
      obtain ⟨o,y,h1,_,h3,rfl,h5⟩:=hout i x hx
      rw [ren_hasBlk,h5] at hb
      rw [h5] at hI ⊢
      rw [ren_muts]
      exact hr.wf.imm o y j h3 hb hI
  refine hk E B ρ' a w hm ⟨?_,hr.size,hr.defers,?_,hwf,?_,?_⟩
  · intro t
    rw [get_renT]
    exact (hr.tm t).ren2 (fun _ _ h=>h) (fun o ho y hy=>hin o (get_refs T t hT o ho) y hy)
  · intro g cs hg
    have le0:Le ρ [] w ρ' [] w:=⟨fun o x hx=>by simp at hx,fun b j hI=>⟨hI,rfl⟩⟩
    exact (hr.glob g cs hg).nil_mono le0
  · refine ⟨hr.fr.os,hr.fr.tape,hr.fr.output,hr.fr.size,hr.fr.keep,hr.fr.imm,hr.fr.new,?_⟩
    intro i x hx hb hlt
    obtain ⟨o,y,h1,_,h3,rfl,h5⟩:=hout i x hx
    rw [ren_hasBlk,h5] at hb
    rw [h5] at hlt ⊢
    exact hr.fr.own o y h3 hb hlt
  · refine ⟨fun o x hx=>?_,hr.le.imm⟩
    obtain ⟨x',h1,h2⟩:=hr.le.obj o x hx
    have hlt:o<m:=hm▸(List.getElem?_eq_some_iff.1 hx).1
    have hko:=hpre o hlt
    refine ⟨x'.ren r,?_,?_⟩
    · show (keepH r h ks)[o]?=_
      rw [keepH_map,List.getElem?_map,hko]
      simp [h1,renO]
    · have:ρ'.loc o=ρ.loc o:=by
        show ρ.loc (ks.getD o 0)=_
        rw [List.getD_eq_getElem?_getD,hko];rfl
      rw [this]
      exact grows_ren r h2
theorem wFrzS (t o:Nat) {es:List AVal} {off len sz fr:Nat} (es':List AVal) (hx:Tm.get T t=.own o off len) (ho:h[o]?=some (.arr sz es fr)) (htip:off+len=es.length) (hes:es.drop off=es') {d:Code}
    (hk:wpA cx n m d Q ((t,.imm es')::T) (h.set o (.arr sz es es.length))):wpA cx n m d Q T h:=by
  intro E B ρ a w hm hr
  obtain ⟨ρ1,g1,g2,g3,g4⟩:=freeze_obj hr.wf hr.fr ho
  have hr1:=hr.step g1 g2 g3
  refine hk E B ρ1 a w hm ⟨fun t'=>?_,hr1.size,hr1.defers,hr1.glob,hr1.wf,hr1.fr,hr1.le⟩
  simp only [Tm.get]
  by_cases e:t=t'
  · subst e
    rw [if_pos rfl,← hes]
    exact g4 off len _ htip (hx▸hr.tm t)
  · rw [if_neg e];exact hr1.tm t'
end
section
variable {P:Program} {ev:Operand→AVal} {op:Op} {h:AHeap}
theorem o_minI {a b:Int} {ats:List Nat} (hv:vBlt ev op=some (.min,ats,[.int .i64 a,.int .i64 b])):aop P h ev op=some (.int .i64 (min a b),h):=by
  rw [vBlt_spec hv]
  have e:(if b<a then b else a)=min a b:=by
    split <;> omega
  match ats with
  | []=>simp only [abuiltin,amin2,put1];rw [e]
  | _::_=>simp only [abuiltin,amin2,put1];rw [e]
end
end Go.Proofs.YtdikgijfekfaoaaGreatDoor.Abs
namespace Go.Proofs.YtdikgijfekfaoaaGreatDoor
open Go.Proofs.YtdikgijfekfaoaaGreatDoor.Abs
set_option maxRecDepth 20000
set_option maxHeartbeats 4000000
@[simp] theorem encM_bd (k:Nat) (l:List (Int×Ty)):((encM (AVal.int .i64) Ty.v l).all fun e=>e.1.bel k && e.2.bel k)=true:=by
  simp [encM,Ty.v,List.all_eq_true]
abbrev Bd:=List (Int×Ty)
def bdOk (m:Bd) (n:Int) (t:Ty):Bool:=match mget n m with
  | none=>true
  | some o=>o.beq t
def bdSm (m:Bd):Prop:=∀ k t,mget k m=some t→t.sz<100000000
noncomputable def c98:Code:=bodyOf Tryz.f98
theorem tset_spec (n:Int) (t a b:Ty) (m:Bd) (hs:t.sz<100000000) (hm:bdSm m):CallsA cx 98 [.int .i64 (n),Ty.v t,.ptr 3 0] [.map (encM (AVal.int .i64) Ty.v m),a.bx,b.bx,.box [.map 0]] (fun v h=>v=(.bool (bdOk m n t))∧h=[.map (encM (AVal.int .i64) Ty.v (mset n t m)),a.bx,b.bx,.box [.map 0]]):=by
 refine func_intro (cx:=cx) 24 4 [(ResultVar.tmp 5)] Tryz.func98 rfl rfl rfl rfl rfl zq ?_
 show wpA cx 24 4 (at_ c98 []) _ _ _
 refine qZ [(0,.int .i64 (n)),(1,Ty.v t),(2,.ptr 3 0)] [.map (encM (AVal.int .i64) Ty.v m),a.bx,b.bx,.box [.map 0]] ?_ ?_
 refine qW 2 [(0,.int .i64 (n)),(2,.ptr 3 0),(4,.ptr 4 0)] [.map (encM (AVal.int .i64) Ty.v m),a.bx,b.bx,.box [.map 0],t.bx] ?_ ?_
 refine qV 2 ?_ ?_
 rcases hm1:mget (n) m with _|x1
 refine qy (o_lookN (ok:=true) (o:=0) (ek:=(AVal.int .i64)) (ev:=Ty.v) (l:=m) (k:=(n)) keyI hm1 kq ty83 ty3 rfl ty25 kq) ?_ ?_ ?_
 refine qR 6 [(0,.int .i64 (n)),(2,.ptr 3 0),(4,.ptr 4 0),(6,.ptr 5 0),(7,.bool false)] [.map (encM (AVal.int .i64) Ty.v m),a.bx,b.bx,.box [.map 0],t.bx,.box zC] ?_ ?_
 refine qV 3 ?_ ?_
 refine qY (o_mset (o:=0) (ek:=(AVal.int .i64)) (ev:=Ty.v) (l:=m) (k:=(n)) (x:=t) keyI kq ty83 ty3 rfl kq kq) ?_ ?_ ?_
 refine qN [(4,.ptr 4 0),(6,.ptr 5 0),(7,.bool false)] [.map (encM (AVal.int .i64) Ty.v (mset (n) t m)),a.bx,b.bx,.box [.map 0],t.bx,.box zC] ?_ ?_
 refine qU 8 [(5,.bool true)] ?_ ?_
 refine wRet kq ?_
 refine leafA (l:=[.bool true]) (.inr rfl) kq (by simp [awrap,bdOk, *]) (by simp [awrap]) (by simp [awrap]) ?_ ?_
 refine Eq.trans (b:=[.map (encM (AVal.int .i64) Ty.v (mset (n) t m)),a.bx,b.bx,.box [.map 0]]) kq ?_
 · simp
 · simp [AObj.belO,hpV,Ty.v]
 iterate 8 kernel_rfl
 refine qy (o_lookS (ok:=true) (o:=0) (ek:=(AVal.int .i64)) (ev:=Ty.v) (l:=m) (k:=(n)) (x:=x1) keyI hm1 kq ty83 ty3 rfl ty25 kq) ?_ ?_ ?_
 refine qR 6 [(0,.int .i64 (n)),(2,.ptr 3 0),(4,.ptr 4 0),(6,.ptr 5 0),(7,.bool true)] [.map (encM (AVal.int .i64) Ty.v m),a.bx,b.bx,.box [.map 0],t.bx,x1.bx] ?_ ?_
 refine qV 3 ?_ ?_
 refine qY (o_mset (o:=0) (ek:=(AVal.int .i64)) (ev:=Ty.v) (l:=m) (k:=(n)) (x:=t) keyI kq ty83 ty3 rfl kq kq) ?_ ?_ ?_
 refine qN [(4,.ptr 4 0),(6,.ptr 5 0),(7,.bool true)] [.map (encM (AVal.int .i64) Ty.v (mset (n) t m)),a.bx,b.bx,.box [.map 0],t.bx,x1.bx] ?_ ?_
 refine qV 5 ?_ ?_
 refine vcallP (args:=[.agg [.int .i64 (x1.kind),.str x1.name,.int .i64 (x1.n),.imm (x1.names.map AVal.str),.imm (x1.kids.map Ty.enc)],.agg [.int .i64 (t.kind),.str t.name,.int .i64 (t.n),.imm (t.names.map AVal.str),.imm (t.kids.map Ty.enc)]]) kq kq kq kq (tEqual_spec x1 t (by exact hm _ _ aq)) (by simp [Ty.v,frzL_app,Occ.v]) (by simp [Ty.v]) (by simp [Ty.v,ownsL_app]) ?_
 refine qR 2 [(5,.bool (x1.beq t))] [.map (encM (AVal.int .i64) Ty.v (mset (n) t m)),a.bx,b.bx,.box [.map 0],t.bx,x1.bx] ?_ ?_
 refine wRet kq ?_
 refine leafA (l:=[.bool (x1.beq t)]) (.inr rfl) kq (by simp [awrap,bdOk, *]) (by simp [awrap]) (by simp [awrap]) ?_ ?_
 refine Eq.trans (b:=[.map (encM (AVal.int .i64) Ty.v (mset (n) t m)),a.bx,b.bx,.box [.map 0]]) kq ?_
 · simp
 · simp [AObj.belO,hpV,Ty.v]
 iterate 12 kernel_rfl
def woL (t u:Ty) (k:Nat):List (List UInt8×Ty):=((t.names.zip t.kids).take k).filter fun p=>decide (idxS u.names p.1<0)
def woT (t u:Ty) (k:Nat):Ty:=.mk 5 [] t.n ((woL t u k).map Prod.fst) ((woL t u k).map Prod.snd)
theorem woL_succ {t u:Ty} {k:Nat} (h:k<t.names.length) (hn:t.names.length=t.kids.length):woL t u (k+1)=woL t u k++(if idxS u.names (t.names.getD k [])<0 then [(t.names.getD k [],t.kids.getD k Ty.zero)] else []):=by
  have h1:k<t.kids.length:=by omega
  have h2:k<(t.names.zip t.kids).length:=by rw [List.length_zip];omega
  have e:(t.names.zip t.kids)[k]=(t.names.getD k [],t.kids.getD k Ty.zero):=by
    rw [List.getElem_zip,List.getD_eq_getElem?_getD,List.getD_eq_getElem?_getD,List.getElem?_eq_getElem h,List.getElem?_eq_getElem h1];rfl
  rw [woL,List.take_succ_eq_append_getElem h2,List.filter_append,e]
  congr 1
  by_cases hc:idxS u.names (t.names.getD k [])<0
  · rw [List.filter_cons,if_pos (decide_eq_true hc),if_pos hc];rfl
  · rw [List.filter_cons,if_neg (fun h=>hc (of_decide_eq_true h)),if_neg hc];rfl
end Go.Proofs.YtdikgijfekfaoaaGreatDoor
namespace Go.Proofs.YtdikgijfekfaoaaGreatDoor
open Go.Proofs.YtdikgijfekfaoaaGreatDoor.Abs
set_option maxRecDepth 20000
set_option maxHeartbeats 4000000
abbrev Fd:=List (List UInt8×Ty)
@[simp] theorem encM_fd (k:Nat) (l:Fd):((encM AVal.str Ty.v l).all fun e=>e.1.bel k && e.2.bel k)=true:=by
  simp [encM,Ty.v,List.all_eq_true]
def recK (l:Fd) (k:Nat):List Ty:=((sSort (l.map Prod.fst)).take k).map fun s=>(mget s l).getD Ty.zero
def recT (l:Fd) (n:Int):Ty:=.mk 5 [] n (sSort (l.map Prod.fst)) (recK l (sSort (l.map Prod.fst)).length)
theorem recK_succ {l:Fd} {k:Nat} {x:Ty} (hk:k<(sSort (l.map Prod.fst)).length) (h:mget ((sSort (l.map Prod.fst)).getD k []) l=some x):recK l k++[x]=recK l (k+1):=by
  unfold recK
  rw [List.take_succ_eq_append_getElem hk,List.map_append,List.map_singleton]
  rw [List.getD_eq_getElem?_getD,List.getElem?_eq_getElem hk,Option.getD_some] at h
  rw [h];rfl
theorem recK_len (l:Fd) (k:Nat) (h:k≤(sSort (l.map Prod.fst)).length):(recK l k).length=k:=by simp [recK,List.length_take];omega
theorem mget_in {s:List UInt8}:∀ {l:Fd},s∈l.map Prod.fst→¬ mget s l=none
  | [],h=>by simp at h
  | p::l,h=>by
    rw [mget]
    split
    · simp
    · rename_i hne
      simp only [List.map_cons,List.mem_cons] at h
      rcases h with h|h
      · exact absurd h hne
      · exact mget_in h
theorem sorted_no {l:Fd} {k:Nat} (hk:k<(sSort (l.map Prod.fst)).length):¬ mget ((sSort (l.map Prod.fst)).getD k []) l=none:=by
  refine mget_in ?_
  rw [List.getD_eq_getElem?_getD,List.getElem?_eq_getElem hk]
  exact (sSort_perm _).subset (List.getElem_mem hk)
def fdOk (l:Fd):Prop:=(l.map Prod.fst).Nodup∧(∀ p∈l,p.1.length≤1000000000)∧l.length<100000000
theorem fd_len {l:Fd} (h:fdOk l):(sSort (l.map Prod.fst)).length<100000000:=by
  rw [(sSort_perm _).length_eq,List.length_map];exact h.2.2
noncomputable def c114:Code:=bodyOf Tryz.f114
theorem keys_raw (t u:Ty) (l:Fd) :CallsA cx 114 [.map 3] [t.bx,u.bx,.box zC,.map (encM AVal.str Ty.v l),.box zC] (fun v h=>v=.fn (.func 127) [] [.ptr 5 0]∧h=[t.bx,u.bx,.box zC,.map (encM AVal.str Ty.v l),.box zC,.box [.map 3]]):=by
 refine func_raw (cx:=cx) 4 5 [(ResultVar.tmp 2)] Tryz.func114 rfl rfl rfl rfl rfl zq ?_
 show wpA cx 4 5 (at_ c114 []) _ _ _
 refine qZ [(0,.map 3)] [t.bx,u.bx,.box zC,.map (encM AVal.str Ty.v l),.box zC] ?_ ?_
 refine qW 2 [(1,.ptr 5 0)] [t.bx,u.bx,.box zC,.map (encM AVal.str Ty.v l),.box zC,.box [.map 3]] ?_ ?_
 refine qU 2 [(2,.fn (.func 127) [] [.ptr 5 0])] ?_ ?_
 refine wRet kq ?_
 refine leafR (l:=[.fn (.func 127) [] [.ptr 5 0]]) 6 [t.bx,u.bx,.box zC,.map (encM AVal.str Ty.v l),.box zC,.box [.map 3]] (.inr rfl) kq dq kq (by simp [awrap,-List.map_append,-List.map_take,-List.map_drop,-List.append_assoc]) (by simp [AObj.belO,-List.map_append,-List.map_take,-List.map_drop,-List.append_assoc]) ?_
 · exact ⟨rfl,rfl⟩
 iterate 3 kernel_rfl
theorem sorted_fd (t u:Ty) (l:Fd) (hl:fdOk l):CallsA cx 113 [.fn (.func 127) [] [.ptr 5 0]] [t.bx,u.bx,.box zC,.map (encM AVal.str Ty.v l),.box zC,.box [.map 3]] (fun v h=>v=.imm ((sSort (l.map Prod.fst)).map .str)∧h=[t.bx,u.bx,.box zC,.map (encM AVal.str Ty.v l),.box zC,.box [.map 3]]):=by
  have e:(l.map fun p=>(p.1,p.2.v)).map (·.1)=l.map Prod.fst:=by simp [Function.comp_def]
  have:=sorted_spec keys127 (h:=[t.bx,u.bx,.box zC,.map (encM AVal.str Ty.v l),.box zC,.box [.map 3]]) (m:=3) (o:=5) (kv:=l.map fun p=>(p.1,p.2.v)) rfl (by simp [encM,encKV,Function.comp_def]) (by rw [e];exact hl.1)
    (fun p hp=>by obtain ⟨q,hq,rfl⟩:=List.mem_map.1 hp;exact hl.2.1 q hq) (by rw [List.length_map];have:=hl.2.2;omega)
  rw [e] at this
  exact this
noncomputable def c83:Code:=bodyOf Tryz.f83
theorem record_spec (t u:Ty) (l:Fd) (n:Int) (hl:fdOk l):CallsA cx 83 [.map 3,.int .i64 (n)] [t.bx,u.bx,.box zC,.map (encM AVal.str Ty.v l)] (fun v h=>v=(Ty.v (recT l n))∧h=[t.bx,u.bx,.box zC,.map (encM AVal.str Ty.v l)]):=by
 have hsl:=fd_len hl
 refine func_intro (cx:=cx) 30 4 [(ResultVar.cell 4 25)] Tryz.func83 rfl rfl rfl rfl rfl zq ?_
 show wpA cx 30 4 (at_ c83 []) _ _ _
 refine qZ [(0,.map 3),(1,.int .i64 (n))] [t.bx,u.bx,.box zC,.map (encM AVal.str Ty.v l)] ?_ ?_
 refine qW 1 [(0,.map 3),(1,.int .i64 (n)),(4,.ptr 4 0)] [t.bx,u.bx,.box zC,.map (encM AVal.str Ty.v l),.box zC] ?_ ?_
 refine qV 2 ?_ ?_
 refine vcallH (args:=[.map 3]) (v:=.fn (.func 127) [] [.ptr 5 0]) (h':=[t.bx,u.bx,.box zC,.map (encM AVal.str Ty.v l),.box zC,.box [.map 3]]) [t.bx,u.bx,.box zC,.map (encM AVal.str Ty.v l),.box zC] kq kq kq kq kq (keys_raw t u l) ?_
 refine vcallH (args:=[.fn (.func 127) [] [.ptr 5 0]]) (v:=.imm ((sSort (l.map Prod.fst)).map AVal.str)) (h':=[t.bx,u.bx,.box zC,.map (encM AVal.str Ty.v l),.box zC,.box [.map 3]]) [t.bx,u.bx,.box zC,.map (encM AVal.str Ty.v l),.box zC,.box [.map 3]] kq kq kq kq kq (sorted_fd t u l hl) ?_
 refine qR 3 [(0,.map 3),(4,.ptr 4 0),(5,.ptr 6 0)] [t.bx,u.bx,.box zC,.map (encM AVal.str Ty.v l),.box zC,.box [.map 3],.box [.int .i64 5,.str [],.int .i64 (n),.imm ((sSort (l.map Prod.fst)).map AVal.str),.full []]] ?_ ?_
 refine wOwnB 6 4 5 (cs:=[.int .i64 5,.str [],.int .i64 (n),.imm ((sSort (l.map Prod.fst)).map AVal.str),.full []]) [.int .i64 5,.str [],.int .i64 (n),.imm ((sSort (l.map Prod.fst)).map AVal.str),.own 7 0 0] dq kq kq kq ?_
 refine qZ [(0,.map 3),(4,.ptr 4 0),(5,.ptr 6 0)] [t.bx,u.bx,.box zC,.map (encM AVal.str Ty.v l),.box zC,.box [.map 3],.box [.int .i64 5,.str [],.int .i64 (n),.imm ((sSort (l.map Prod.fst)).map AVal.str),.own 7 0 0],.arr 5 (([]:List (Ty)).map Ty.enc) 0] ?_ ?_
 refine qSeq ?_ ?_
 refine qV 2 ?_ ?_
 refine qy (o_lenmap (l:=(sSort (l.map Prod.fst))) (enc:=AVal.str) kq ty22) ?_ ?_ ?_
 refine qR 1 [(0,.map 3),(4,.ptr 4 0),(5,.ptr 6 0),(14,.imm ((sSort (l.map Prod.fst)).map AVal.str)),(15,nI ((sSort (l.map Prod.fst)).length)),(16,.int .i64 0)] [t.bx,u.bx,.box zC,.map (encM AVal.str Ty.v l),.box zC,.box [.map 3],.box [.int .i64 5,.str [],.int .i64 (n),.imm ((sSort (l.map Prod.fst)).map AVal.str),.own 7 0 0],.arr 5 (([]:List (Ty)).map Ty.enc) 0] ?_ ?_
 refine qB 0 ?_ ?_ ?_
 refine wLoop (σ:=Nat) (fun k=>[(0,.map 3),(4,.ptr 4 0),(5,.ptr 6 0),(14,.imm ((sSort (l.map Prod.fst)).map AVal.str)),(15,.int .i64 (((sSort (l.map Prod.fst)).length:Nat):Int)),(16,.int .i64 ((k:Nat):Int))]) (fun k=>[t.bx,u.bx,.box zC,.map (encM AVal.str Ty.v l),.box zC,.box [.map 3],.box [.int .i64 5,.str [],.int .i64 (n),.imm ((sSort (l.map Prod.fst)).map AVal.str),.own 7 0 (recK l k).length],.arr 5 ((recK l k).map Ty.enc) 0]) (fun k=>k≤(sSort (l.map Prod.fst)).length) (fun k=>(sSort (l.map Prod.fst)).length - k) 0 kq (by exact Nat.zero_le _) ⟨⟨kq,kq,kq,kq,kq,kq,trivial⟩,by simp [BelL,AVal.bel],by simp,kq,by simp [AObj.belO,belL_app,Ty.enc_v]⟩ ?_
 rintro k hk
 have hrl:=recK_len l k hk
 refine qW 1 [(0,.map 3),(4,.ptr 4 0),(5,.ptr 6 0),(14,.imm ((sSort (l.map Prod.fst)).map AVal.str)),(15,nI ((sSort (l.map Prod.fst)).length)),(16,nI k),(17,.bool (decide (((k:Nat):Int)<(((sSort (l.map Prod.fst)).length:Nat):Int))))] [t.bx,u.bx,.box zC,.map (encM AVal.str Ty.v l),.box zC,.box [.map 3],.box [.int .i64 5,.str [],.int .i64 (n),.imm ((sSort (l.map Prod.fst)).map AVal.str),.own 7 0 (recK l k).length],.arr 5 ((recK l k).map Ty.enc) 0] ?_ ?_
 refine qSeq ?_ ?_
 by_cases hb1:((k:Nat):Int)<(((sSort (l.map Prod.fst)).length:Nat):Int)
 refine qt (decide_eq_true hb1) ?_ ?_
 refine qK ?_ ?_
 refine qz [(0,.map 3),(4,.ptr 4 0),(5,.ptr 6 0),(14,.imm ((sSort (l.map Prod.fst)).map AVal.str)),(15,nI ((sSort (l.map Prod.fst)).length)),(16,nI k)] ?_ ?_
 refine qSeq ?_ ?_
 refine qB 1 ?_ ?_ ?_
 refine qO ?_ ?_
 refine qy (o_ixmap (k:=.i64) (l:=(sSort (l.map Prod.fst))) (enc:=AVal.str) (i:=((k:Nat):Int)) [] kq ty22 ty9 (fun _=>rfl) oq oq) ?_ ?_ ?_
 refine qR 2 [(0,.map 3),(4,.ptr 4 0),(5,.ptr 6 0),(7,.str ((sSort (l.map Prod.fst)).getD k [])),(14,.imm ((sSort (l.map Prod.fst)).map AVal.str)),(15,nI ((sSort (l.map Prod.fst)).length)),(16,nI k)] [t.bx,u.bx,.box zC,.map (encM AVal.str Ty.v l),.box zC,.box [.map 3],.box [.int .i64 5,.str [],.int .i64 (n),.imm ((sSort (l.map Prod.fst)).map AVal.str),.own 7 0 (recK l k).length],.arr 5 ((recK l k).map Ty.enc) 0] ?_ ?_
 refine qo ?_ ?_
 refine qr 4 ?_ ?_
 rcases hm2:mget ((sSort (l.map Prod.fst)).getD k []) l with _|x2
 · exact absurd hm2 (sorted_no oq)
 refine qy (o_lookS (ok:=false) (o:=3) (ek:=AVal.str) (ev:=Ty.v) (l:=l) (k:=((sSort (l.map Prod.fst)).getD k [])) (x:=x2) keyS hm2 kq ty106 ty9 rfl ty25 kq) ?_ ?_ ?_
 refine qr 1 ?_ ?_
 refine qY (o_appmap (o:=7) (len:=((recK l k).length)) (l:=(recK l k)) (xs:=[x2]) (enc:=Ty.enc) (sz:=5) (fr:=0) (x:=(.full [Ty.v x2])) kq ty23 ty25 ty23 rfl kq rfl rfl (Eq.trans (b:=some [Ty.v x2]) kq (by simp [Ty.enc_v])) ⟨by decide,by kernel_rfl⟩ ty_ok (by simp only [List.length_append,List.length_cons,List.length_nil];omega) (by simp only [List.length_append,List.length_cons,List.length_nil];omega)) ?_ ?_ ?_
 refine qr 2 ?_ ?_
 refine qe ?_ ?_
 refine AIn_normal ?_
 refine AThen_normal ?_
 refine qZ [(0,.map 3),(4,.ptr 4 0),(5,.ptr 6 0),(14,.imm ((sSort (l.map Prod.fst)).map AVal.str)),(15,nI ((sSort (l.map Prod.fst)).length)),(16,nI k)] [t.bx,u.bx,.box zC,.map (encM AVal.str Ty.v l),.box zC,.box [.map 3],.box [.int .i64 5,.str [],.int .i64 (n),.imm ((sSort (l.map Prod.fst)).map AVal.str),.own 7 0 ((recK l k)++[x2]).length],.arr 5 (((recK l k)++[x2]).map Ty.enc) 0] ?_ ?_
 refine qo ?_ ?_
 refine qy (o_add (a:=((k:Nat):Int)) (b:=1) kq oq oq) ?_ ?_ ?_
 refine qr 1 ?_ ?_
 refine qe ?_ ?_
 refine AThen_normal ⟨k+1,?_,?_,⟨⟨kq,kq,kq,kq,kq,kq,trivial⟩,by simp [BelL,AVal.bel],by simp,(Eq.trans (b:=[t.bx,u.bx,.box zC,.map (encM AVal.str Ty.v l),.box zC,.box [.map 3],.box [.int .i64 5,.str [],.int .i64 (n),.imm ((sSort (l.map Prod.fst)).map AVal.str),.own 7 0 ((recK l k)++[x2]).length],.arr 5 (((recK l k)++[x2]).map Ty.enc) 0]) kq (by rw [recK_succ oq aq])),by simp [AObj.belO,belL_app,Ty.enc_v]⟩⟩
 · omega
 · omega
 iterate 25 kernel_rfl
 refine qf (decide_eq_false hb1) ?_ ?_
 refine wExit 0 kq kq ?_
 refine AThen_exit ?_
 refine AThen_exit ?_
 refine AIn_exit ?_
 refine AThen_normal ?_
 refine qz [(4,.ptr 4 0),(5,.ptr 6 0)] ?_ ?_
 refine wFrzC 6 4 7 (cs:=[.int .i64 5,.str [],.int .i64 (n),.imm ((sSort (l.map Prod.fst)).map AVal.str),.own 7 0 (recK l k).length]) (es:=((recK l k).map Ty.enc)) (off:=0) (len:=((recK l k).length)) (sz:=5) (fr:=0) [.int .i64 5,.str [],.int .i64 (n),.imm ((sSort (l.map Prod.fst)).map AVal.str),.imm ((recK l k).map Ty.enc)] ((recK l k).map Ty.enc) dq kq kq kq zq kq kq ?_
 refine qZ [(4,.ptr 4 0),(5,.ptr 6 0)] [t.bx,u.bx,.box zC,.map (encM AVal.str Ty.v l),.box zC,.box [.map 3],.box [.int .i64 5,.str [],.int .i64 (n),.imm ((sSort (l.map Prod.fst)).map AVal.str),.imm ((recK l k).map Ty.enc)],.arr 5 ((recK l k).map Ty.enc) ((recK l k).map Ty.enc).length] ?_ ?_
 refine qW 2 [(4,.ptr 4 0)] [t.bx,u.bx,.box zC,.map (encM AVal.str Ty.v l),.box [.int .i64 5,.str [],.int .i64 (n),.imm ((sSort (l.map Prod.fst)).map AVal.str),.imm ((recK l k).map Ty.enc)],.box [.map 3],.box [.int .i64 5,.str [],.int .i64 (n),.imm ((sSort (l.map Prod.fst)).map AVal.str),.imm ((recK l k).map Ty.enc)],.arr 5 ((recK l k).map Ty.enc) ((recK l k).map Ty.enc).length] ?_ ?_
 refine wRet kq ?_
 refine leafA (l:=[.agg [.int .i64 5,.str [],.int .i64 (n),.imm ((sSort (l.map Prod.fst)).map AVal.str),.imm ((recK l k).map Ty.enc)]]) (.inr rfl) kq (by have hkk:k=(sSort (l.map Prod.fst)).length:=oq;subst hkk;simp [Ty.v,AVal.frz,frzL,awrap,recT]) (by simp [awrap]) (by simp [awrap]) ?_ ?_
 refine Eq.trans (b:=[t.bx,u.bx,.box zC,.map (encM AVal.str Ty.v l)]) kq ?_
 · rfl
 · simp [AObj.belO,hpV,Ty.v]
 iterate 18 kernel_rfl
def onL (t u:Ty):Nat→Fd
  | 0=>[]
  | k+1=>if u.names.contains (t.names.getD k [])=true then onL t u k else mset (t.names.getD k []) (t.kids.getD k Ty.zero) (onL t u k)
theorem onL_yes {t u:Ty} {k:Nat} (h:u.names.contains (t.names.getD k [])=true):onL t u k=onL t u (k+1):=by rw [onL,if_pos h]
theorem onL_no {t u:Ty} {k:Nat} (h:¬ u.names.contains (t.names.getD k [])=true):mset (t.names.getD k []) (t.kids.getD k Ty.zero) (onL t u k)=onL t u (k+1):=by rw [onL,if_neg h]
theorem mset_keys (s:List UInt8) (x:Ty):∀ l:Fd,(mset s x l).map Prod.fst=if s∈l.map Prod.fst then l.map Prod.fst else l.map Prod.fst++[s]
  | []=>by simp [mset]
  | p::l=>by
    rw [mset]
    by_cases e:s=p.1
    · rw [if_pos e,List.map_cons,if_pos (by rw [List.map_cons];exact List.mem_cons.2 (.inl e)),List.map_cons,e]
    · rw [if_neg e,List.map_cons,List.map_cons,mset_keys s x l]
      by_cases hm:s∈l.map Prod.fst
      · rw [if_pos hm,if_pos (List.mem_cons_of_mem _ hm)]
      · rw [if_neg hm,if_neg (by simp only [List.mem_cons,not_or];exact ⟨e,hm⟩)];rfl
theorem onL_keys (t u:Ty):∀ k,((onL t u k).map Prod.fst).Nodup∧(onL t u k).length≤k∧∀ s∈(onL t u k).map Prod.fst,∃ i,i<k∧s=t.names.getD i []
  | 0=>by simp [onL]
  | k+1=>by
    obtain ⟨h1,h2,h3⟩:=onL_keys t u k
    rw [onL]
    split
    · exact ⟨h1,by omega,fun s hs=>by obtain ⟨i,hi,e⟩:=h3 s hs;exact ⟨i,by omega,e⟩⟩
    · have hl:(mset (t.names.getD k []) (t.kids.getD k Ty.zero) (onL t u k)).length≤k+1:=by
        rw [← List.length_map (f:=Prod.fst),mset_keys]
        split
        · rw [List.length_map];omega
        · rw [List.length_append,List.length_map];simp;omega
      refine ⟨?_,hl,?_⟩
      · rw [mset_keys]
        split
        · exact h1
        · rename_i hm
          rw [List.nodup_append]
          exact ⟨h1,by simp,fun a ha b hb=>by simp only [List.mem_singleton] at hb;subst hb;rintro rfl;exact hm ha⟩
      · intro s hs
        rw [mset_keys] at hs
        split at hs
        · obtain ⟨i,hi,e⟩:=h3 s hs;exact ⟨i,by omega,e⟩
        · rcases List.mem_append.1 hs with hs|hs
          · obtain ⟨i,hi,e⟩:=h3 s hs;exact ⟨i,by omega,e⟩
          · exact ⟨k,by omega,by simpa using hs⟩
theorem onL_ok (t u:Ty) (k:Nat) (hs:t.sz<100000000) (hk:k≤t.names.length):fdOk (onL t u k):=by
  obtain ⟨h1,h2,h3⟩:=onL_keys t u k
  have hn:=sz_names t
  refine ⟨h1,fun p hp=>?_,by omega⟩
  obtain ⟨i,_,e⟩:=h3 p.1 (List.mem_map_of_mem hp)
  rw [e]
  have:=sz_names_at t i
  omega
noncomputable def c100:Code:=bodyOf Tryz.f100
theorem only_spec (t u:Ty) (n:Int) (hs:t.sz<100000000) (hu:u.sz<100000000) (hnk:t.names.length=t.kids.length):CallsP cx 100 [Ty.v t,Ty.v u,.int .i64 (n)] (Ty.v (recT (onL t u t.names.length) n)):=by
 have hz1:=sz_names t
 have hz2:=sz_kids t
 have hz3:=sz_names u
 refine func_intro (cx:=cx) 35 0 [(ResultVar.cell 6 25)] Tryz.func100 rfl rfl rfl rfl rfl zq ?_
 show wpA cx 35 0 (at_ c100 []) _ _ _
 refine qZ [(0,Ty.v t),(1,Ty.v u),(2,.int .i64 (n))] [] ?_ ?_
 refine qW 3 [(2,.int .i64 (n)),(3,.ptr 0 0),(4,.ptr 1 0),(6,.ptr 2 0)] [t.bx,u.bx,.box zC] ?_ ?_
 refine qW 2 [(2,.int .i64 (n)),(3,.ptr 0 0),(4,.ptr 1 0),(6,.ptr 2 0),(7,.map 3)] [t.bx,u.bx,.box zC,.map (encM AVal.str Ty.v ([]:List (List UInt8×Ty)))] ?_ ?_
 refine qSeq ?_ ?_
 refine qV 2 ?_ ?_
 refine qy (o_lenmap (l:=t.names) (enc:=AVal.str) kq ty22) ?_ ?_ ?_
 refine qR 1 [(2,.int .i64 (n)),(3,.ptr 0 0),(4,.ptr 1 0),(6,.ptr 2 0),(7,.map 3),(12,.imm (t.names.map AVal.str)),(13,nI t.names.length),(14,.int .i64 0)] [t.bx,u.bx,.box zC,.map (encM AVal.str Ty.v ([]:List (List UInt8×Ty)))] ?_ ?_
 refine qB 0 ?_ ?_ ?_
 refine wLoop (σ:=Nat) (fun k=>[(2,.int .i64 (n)),(3,.ptr 0 0),(4,.ptr 1 0),(6,.ptr 2 0),(7,.map 3),(12,.imm (t.names.map AVal.str)),(13,.int .i64 ((t.names.length:Nat):Int)),(14,.int .i64 ((k:Nat):Int))]) (fun k=>[t.bx,u.bx,.box zC,.map (encM AVal.str Ty.v (onL t u k))]) (fun k=>k≤t.names.length) (fun k=>t.names.length - k) 0 kq (by exact Nat.zero_le _) ⟨⟨kq,kq,kq,kq,kq,kq,kq,kq,trivial⟩,by simp [BelL,AVal.bel],by simp,kq,by simp [AObj.belO]⟩ ?_
 rintro k hk
 refine qW 1 [(2,.int .i64 (n)),(3,.ptr 0 0),(4,.ptr 1 0),(6,.ptr 2 0),(7,.map 3),(12,.imm (t.names.map AVal.str)),(13,nI t.names.length),(14,nI k),(15,.bool (decide (((k:Nat):Int)<((t.names.length:Nat):Int))))] [t.bx,u.bx,.box zC,.map (encM AVal.str Ty.v (onL t u k))] ?_ ?_
 refine qSeq ?_ ?_
 by_cases hb1:((k:Nat):Int)<((t.names.length:Nat):Int)
 refine qt (decide_eq_true hb1) ?_ ?_
 refine qK ?_ ?_
 refine qz [(2,.int .i64 (n)),(3,.ptr 0 0),(4,.ptr 1 0),(6,.ptr 2 0),(7,.map 3),(12,.imm (t.names.map AVal.str)),(13,nI t.names.length),(14,nI k)] ?_ ?_
 refine qSeq ?_ ?_
 refine qB 1 ?_ ?_ ?_
 refine qV 1 ?_ ?_
 refine qy (o_ixmap (k:=.i64) (l:=t.names) (enc:=AVal.str) (i:=((k:Nat):Int)) [] kq ty22 ty9 (fun _=>rfl) oq oq) ?_ ?_ ?_
 refine qR 3 [(2,.int .i64 (n)),(3,.ptr 0 0),(4,.ptr 1 0),(6,.ptr 2 0),(7,.map 3),(8,nI k),(9,.str (t.names.getD k [])),(12,.imm (t.names.map AVal.str)),(13,nI t.names.length),(14,nI k)] [t.bx,u.bx,.box zC,.map (encM AVal.str Ty.v (onL t u k))] ?_ ?_
 refine qV 3 ?_ ?_
 refine vcallP (args:=[.imm (u.names.map AVal.str),.str (t.names.getD k [])]) kq kq kq kq (slContains_spec u.names (t.names.getD k []) oq) (by simp [Ty.v,frzL_app,Occ.v]) (by simp [Ty.v]) (by simp [Ty.v,ownsL_app]) ?_
 refine qR 1 [(2,.int .i64 (n)),(3,.ptr 0 0),(4,.ptr 1 0),(6,.ptr 2 0),(7,.map 3),(8,nI k),(9,.str (t.names.getD k [])),(12,.imm (t.names.map AVal.str)),(13,nI t.names.length),(14,nI k),(23,.bool (!(u.names.contains (t.names.getD k []))))] [t.bx,u.bx,.box zC,.map (encM AVal.str Ty.v (onL t u k))] ?_ ?_
 by_cases hb2:(u.names.contains (t.names.getD k []))=true
 refine qf (x:=(!(u.names.contains (t.names.getD k [])))) (congrArg not (hb2)) ?_ ?_
 refine qk ?_ ?_
 refine AIn_normal ?_
 refine AThen_normal ?_
 refine qz [(2,.int .i64 (n)),(3,.ptr 0 0),(4,.ptr 1 0),(6,.ptr 2 0),(7,.map 3),(12,.imm (t.names.map AVal.str)),(13,nI t.names.length),(14,nI k)] ?_ ?_
 refine qo ?_ ?_
 refine qy (o_add (a:=((k:Nat):Int)) (b:=1) kq oq oq) ?_ ?_ ?_
 refine qr 1 ?_ ?_
 refine qe ?_ ?_
 refine AThen_normal ⟨k+1,?_,?_,⟨⟨kq,kq,kq,kq,kq,kq,kq,kq,trivial⟩,by simp [BelL,AVal.bel],by simp,(Eq.trans (b:=[t.bx,u.bx,.box zC,.map (encM AVal.str Ty.v (onL t u k))]) kq (by rw [onL_yes aq])),by simp [AObj.belO]⟩⟩
 · omega
 · omega
 iterate 8 kernel_rfl
 refine qt (x:=(!(u.names.contains (t.names.getD k [])))) (congrArg not (Bool.eq_false_iff.2 hb2)) ?_ ?_
 refine qo ?_ ?_
 refine qr 5 ?_ ?_
 refine qy ((o_ixmap (k:=.i64) (l:=t.kids) (enc:=Ty.enc) (i:=((k:Nat):Int)) Ty.zero kq ty23 ty25 ty_size oq oq).trans (congrArg (fun cs=>some (AVal.pimm cs 0,_)) (ty_cells (t.kids.getD k Ty.zero)))) ?_ ?_ ?_
 refine qr 1 ?_ ?_
 refine qY (o_mset (o:=3) (ek:=AVal.str) (ev:=Ty.v) (l:=(onL t u k)) (k:=(t.names.getD k [])) (x:=(t.kids.getD k Ty.zero)) keyS kq ty106 ty9 rfl kq kq) ?_ ?_ ?_
 refine qe ?_ ?_
 refine AIn_normal ?_
 refine AThen_normal ?_
 refine qZ [(2,.int .i64 (n)),(3,.ptr 0 0),(4,.ptr 1 0),(6,.ptr 2 0),(7,.map 3),(12,.imm (t.names.map AVal.str)),(13,nI t.names.length),(14,nI k)] [t.bx,u.bx,.box zC,.map (encM AVal.str Ty.v (mset (t.names.getD k []) (t.kids.getD k Ty.zero) (onL t u k)))] ?_ ?_
 refine qo ?_ ?_
 refine qy (o_add (a:=((k:Nat):Int)) (b:=1) kq oq oq) ?_ ?_ ?_
 refine qr 1 ?_ ?_
 refine qe ?_ ?_
 refine AThen_normal ⟨k+1,?_,?_,⟨⟨kq,kq,kq,kq,kq,kq,kq,kq,trivial⟩,by simp [BelL,AVal.bel],by simp,(Eq.trans (b:=[t.bx,u.bx,.box zC,.map (encM AVal.str Ty.v (mset (t.names.getD k []) (t.kids.getD k Ty.zero) (onL t u k)))]) kq (by rw [onL_no aq])),by simp [AObj.belO]⟩⟩
 · omega
 · omega
 iterate 27 kernel_rfl
 refine qf (decide_eq_false hb1) ?_ ?_
 refine wExit 0 kq kq ?_
 refine AThen_exit ?_
 refine AThen_exit ?_
 refine AIn_exit ?_
 refine AThen_normal ?_
 refine qz [(2,.int .i64 (n)),(6,.ptr 2 0),(7,.map 3)] ?_ ?_
 refine qV 2 ?_ ?_
 refine vcallA (args:=[.map 3,.int .i64 (n)]) (hs:=[t.bx,u.bx,.box zC,.map (encM AVal.str Ty.v (onL t u k))]) (hs':=[t.bx,u.bx,.box zC,.map (encM AVal.str Ty.v (onL t u k))]) (rest:=[]) kq kq kq kq kq (record_spec t u (onL t u k) (n) (by (first|exact onL_ok t u _ hs oq))) (by simp [AObj.belO,Ty.v]) (by simp [AObj.belO,Ty.v]) rfl (by simp [AObj.belO,Ty.v]) (by simp [AObj.belO,Ty.v]) kq ?_
 refine qR 1 [(6,.ptr 2 0)] [t.bx,u.bx,(recT (onL t u k) (n)).bx,.map (encM AVal.str Ty.v (onL t u k))] ?_ ?_
 refine wRet kq ?_
 refine leafP (l:=[.agg [.int .i64 ((recT (onL t u k) (n)).kind),.str (recT (onL t u k) (n)).name,.int .i64 ((recT (onL t u k) (n)).n),.imm ((recT (onL t u k) (n)).names.map AVal.str),.imm ((recT (onL t u k) (n)).kids.map Ty.enc)]]) (.inr rfl) kq ?_
 · obtain rfl:k=t.names.length:=by omega
   simp [Ty.v,AVal.frz,frzL,awrap]
 iterate 16 kernel_rfl
end Go.Proofs.YtdikgijfekfaoaaGreatDoor
namespace Go.Proofs.YtdikgijfekfaoaaGreatDoor
open Go.Proofs.YtdikgijfekfaoaaGreatDoor.Abs
theorem sSort_id {l:List (List UInt8)} (h:l.Pairwise (fun a b=>a<b)):sSort l=l:=by
  refine List.Perm.eq_of_pairwise (le:=fun a b=>leB a b=true) (fun a b _ _ h1 h2=>?_) (sSort_sorted l) (h.imp fun {a b} hab=>?_) (sSort_perm l)
  · simp only [leB,decide_eq_true_eq] at h1 h2
    exact List.le_antisymm h1 h2
  · simp only [leB,decide_eq_true_eq];exact List.le_of_lt hab
theorem mset_new {s:List UInt8} {x:Ty}:∀ {l:Fd},s∉l.map Prod.fst→mset s x l=l++[(s,x)]
  | [],_=>rfl
  | p::l,h=>by
    simp only [List.map_cons,List.mem_cons,not_or] at h
    rw [mset,if_neg h.1,mset_new h.2];rfl
theorem nodup_getD {l:List (List UInt8)} (h:l.Nodup) {i k:Nat} (hi:i<k) (hk:k<l.length):¬ l.getD k []=l.getD i []:=by
  rw [List.getD_eq_getElem?_getD,List.getD_eq_getElem?_getD,List.getElem?_eq_getElem hk,List.getElem?_eq_getElem (by omega:i<l.length)]
  intro e
  have:=(List.getElem_inj h).1 (show l[k]=l[i] from e)
  omega
theorem onL_wo {c t:Ty} (hnd:c.names.Nodup) (hnk:c.names.length=c.kids.length):∀ k,k≤c.names.length→onL c t k=woL c t k
  | 0,_=>by simp [onL,woL]
  | k+1,hk=>by
    have ih:=onL_wo (t:=t) hnd hnk k oq
    rw [woL_succ oq hnk,onL,ih]
    have hc:=idxS_contains t.names (c.names.getD k [])
    by_cases hx:idxS t.names (c.names.getD k [])<0
    · rw [if_pos hx,if_neg (by rw [← hc,decide_eq_true_eq];omega)]
      refine mset_new ?_
      intro hm
      rw [← ih] at hm
      obtain ⟨i,hi,e⟩:=(onL_keys c t k).2.2 _ hm
      exact nodup_getD hnd hi oq e
    · rw [if_neg hx,if_pos (by rw [← hc,decide_eq_true_eq];omega),List.append_nil]
theorem mget_keys:∀ {l:Fd},(l.map Prod.fst).Nodup→(l.map Prod.fst).map (fun s=>(mget s l).getD Ty.zero)=l.map Prod.snd
  | [],_=>rfl
  | p::l,h=>by
    simp only [List.map_cons,List.nodup_cons] at h ⊢
    rw [mget,if_pos rfl,← mget_keys h.2]
    refine congrArg (p.2::·) (List.map_congr_left fun s hs=>?_)
    rw [mget,if_neg (by rintro rfl;exact h.1 hs)]
theorem woL_sub (c t:Ty) (k:Nat):(woL c t k).Sublist (c.names.zip c.kids):=List.filter_sublist.trans (List.take_sublist _ _)
theorem zip_fst:∀ {a:List (List UInt8)} {b:List Ty},a.length=b.length→(a.zip b).map Prod.fst=a
  | [],_,_=>rfl
  | x::a,y::b,h=>by simp only [List.zip_cons_cons,List.map_cons,zip_fst (a:=a) (b:=b) (by simpa using h)]
  | x::a,[],h=>by simp at h
theorem zip_snd:∀ {a:List (List UInt8)} {b:List Ty},a.length=b.length→(a.zip b).map Prod.snd=b
  | [],[],_=>rfl
  | [],y::b,h=>by simp at h
  | x::a,y::b,h=>by simp only [List.zip_cons_cons,List.map_cons,zip_snd (a:=a) (b:=b) (by simpa using h)]
  | x::a,[],h=>by simp at h
theorem recT_wo {c t:Ty} (hs:c.names.Pairwise (fun a b=>a<b)) (hnk:c.names.length=c.kids.length):recT (onL c t c.names.length) c.n=woT c t c.names.length:=by
  have hnd:c.names.Nodup:=hs.imp fun {a b} h=>by rintro rfl;exact absurd h (List.lt_irrefl a)
  rw [onL_wo hnd hnk _ (Nat.le_refl _)]
  have hsub:((woL c t c.names.length).map Prod.fst).Sublist c.names:=by
    have:=(woL_sub c t c.names.length).map Prod.fst
    rwa [zip_fst hnk] at this
  have e:=sSort_id (hs.sublist hsub)
  unfold recT woT recK
  rw [e,List.take_length,mget_keys (hnd.sublist hsub)]
theorem szS_sub {a b:List (List UInt8)} (h:a.Sublist b):szS a≤szS b:=by
  induction h with
  | slnil=>exact Nat.le_refl _
  | cons x _ ih=>simp only [szS];omega
  | cons_cons x _ ih=>simp only [szS];omega
theorem szL_sub {a b:List Ty} (h:a.Sublist b):Ty.szL a≤Ty.szL b:=by
  induction h with
  | slnil=>exact Nat.le_refl _
  | cons x _ ih=>simp only [Ty.szL];omega
  | cons_cons x _ ih=>simp only [Ty.szL];omega
theorem woT_sz {c t:Ty} (hnk:c.names.length=c.kids.length) (k:Nat):(woT c t k).sz≤c.sz:=by
  have h1:=szS_sub ((woL_sub c t k).map Prod.fst)
  have h2:=szL_sub ((woL_sub c t k).map Prod.snd)
  rw [zip_fst hnk] at h1
  rw [zip_snd hnk] at h2
  have e:=sz_eq c
  simp only [woT,Ty.sz,List.length_nil]
  omega
end Go.Proofs.YtdikgijfekfaoaaGreatDoor
namespace Go.Proofs.YtdikgijfekfaoaaGreatDoor
open Go.Proofs.YtdikgijfekfaoaaGreatDoor.Abs
set_option maxRecDepth 20000
set_option maxHeartbeats 4000000
def okN (t:Ty):Prop:=(t.kind=4→t.kids.length=1)∧(t.kind=5→t.names.length=t.kids.length∧t.names.Pairwise (fun a b=>a<b))
mutual
def gd:Ty→Prop
  | .mk k x n l ks=>okN (.mk k x n l ks)∧gdL ks
def gdL:List Ty→Prop
  | []=>True
  | t::l=>gd t∧gdL l
end
theorem gd_ok {t:Ty} (h:gd t):okN t:=by cases t;simp only [gd] at h;exact h.1
theorem gd_kids {t:Ty} (h:gd t):gdL t.kids:=by cases t;simp only [gd] at h;exact h.2
theorem gdL_at:∀ {l:List Ty},gdL l→∀ i,i<l.length→gd (l.getD i Ty.zero)
  | [],_,i,hi=>by simp at hi
  | t::l,h,0,_=>by simp only [gdL] at h;exact h.1
  | t::l,h,i+1,hi=>by simp only [gdL] at h;exact gdL_at h.2 i (by simpa using hi)
theorem gd_zero:gd Ty.zero:=by simp [Ty.zero,gd,gdL,okN]
theorem gd_at {t:Ty} (h:gd t) (i:Nat) (hi:i<t.kids.length):gd (t.kids.getD i Ty.zero):=gdL_at (gd_kids h) i hi
mutual
def mT:Ty→Ty→Bd→Bool×Bd
  | .mk k x n ns ks,c,m =>
    if k=6 then (bdOk m n c,mset n c m)
    else if ¬ k=c.kind∨¬ x=c.name then (false,m)
    else if k=5 then
      if (mTL ns ks c m).1=true then
        if n=0 then (decide (c.n=0) && decide (ns.length=c.names.length),(mTL ns ks c m).2)
        else (bdOk (mTL ns ks c m).2 n (recT (onL c (.mk k x n ns ks) c.names.length) c.n),mset n (recT (onL c (.mk k x n ns ks) c.names.length) c.n) (mTL ns ks c m).2)
      else (false,(mTL ns ks c m).2)
    else if k=4 then mT0 ks (c.kids.getD 0 Ty.zero) m
    else (true,m)
def mT0:List Ty→Ty→Bd→Bool×Bd
  | [],_,m=>(false,m)
  | t::_,c,m=>mT t c m
def mTL:List (List UInt8)→List Ty→Ty→Bd→Bool×Bd
  | s::ns,t::ks,c,m =>
    if idxS c.names s<0 then (false,m)
    else if (mT t (c.kids.getD (idxS c.names s).toNat Ty.zero) m).1=true then mTL ns ks c (mT t (c.kids.getD (idxS c.names s).toNat Ty.zero) m).2
    else (false,(mT t (c.kids.getD (idxS c.names s).toNat Ty.zero) m).2)
  | _,_,_,m=>(true,m)
end
theorem mT_6 {t c:Ty} {m:Bd} (h:t.kind=6):mT t c m=(bdOk m t.n c,mset t.n c m):=by cases t;simp only [Ty.kind_mk] at h;rw [mT,if_pos h];rfl
theorem mT_ne {t c:Ty} {m:Bd} (h6:¬ t.kind=6) (h:¬ t.kind=c.kind∨¬ t.name=c.name):mT t c m=(false,m):=by cases t;simp only [Ty.kind_mk,Ty.name_mk] at h6 h;rw [mT,if_neg h6,if_pos h]
theorem mT_5f {t c:Ty} {m:Bd} (h5:t.kind=5) (h:¬ (¬ t.kind=c.kind∨¬ t.name=c.name)) (hf:¬ (mTL t.names t.kids c m).1=true):mT t c m=(false,(mTL t.names t.kids c m).2):=by
  cases t;simp only [Ty.kind_mk,Ty.name_mk,Ty.names_mk,Ty.kids_mk] at h5 h hf ⊢;rw [mT,if_neg oq,if_neg h,if_pos h5,if_neg hf]
theorem mT_5n {t c:Ty} {m:Bd} (h5:t.kind=5) (h:¬ (¬ t.kind=c.kind∨¬ t.name=c.name)) (hf:(mTL t.names t.kids c m).1=true) (hn:¬ t.n=0):mT t c m=(bdOk (mTL t.names t.kids c m).2 t.n (recT (onL c t c.names.length) c.n),mset t.n (recT (onL c t c.names.length) c.n) (mTL t.names t.kids c m).2):=by
  cases t;simp only [Ty.kind_mk,Ty.name_mk,Ty.names_mk,Ty.kids_mk,Ty.n_mk] at h5 h hf hn ⊢;rw [mT,if_neg oq,if_neg h,if_pos h5,if_pos hf,if_neg hn]
theorem mT_5z {t c:Ty} {m:Bd} (h5:t.kind=5) (h:¬ (¬ t.kind=c.kind∨¬ t.name=c.name)) (hf:(mTL t.names t.kids c m).1=true) (hn:t.n=0):mT t c m=(decide (c.n=0) && decide (t.names.length=c.names.length),(mTL t.names t.kids c m).2):=by
  cases t;simp only [Ty.kind_mk,Ty.name_mk,Ty.names_mk,Ty.kids_mk,Ty.n_mk] at h5 h hf hn ⊢;rw [mT,if_neg oq,if_neg h,if_pos h5,if_pos hf,if_pos hn];rfl
theorem mT_4 {t c:Ty} {m:Bd} (h4:t.kind=4) (h:¬ (¬ t.kind=c.kind∨¬ t.name=c.name)) (hl:0<t.kids.length):mT t c m=mT (t.kids.getD 0 Ty.zero) (c.kids.getD 0 Ty.zero) m:=by
  obtain ⟨k,x,n,ns,ks⟩:=t
  simp only [Ty.kind_mk,Ty.name_mk,Ty.kids_mk] at h4 h hl ⊢
  rw [mT,if_neg oq,if_neg h,if_neg oq,if_pos h4]
  cases ks with
  | nil=>simp at hl
  | cons a l=>rfl
theorem mT_o {t c:Ty} {m:Bd} (h6:¬ t.kind=6) (h:¬ (¬ t.kind=c.kind∨¬ t.name=c.name)) (h5:¬ t.kind=5) (h4:¬ t.kind=4):mT t c m=(true,m):=by
  cases t;simp only [Ty.kind_mk,Ty.name_mk] at h6 h h5 h4;rw [mT,if_neg h6,if_neg h,if_neg h5,if_neg h4]
theorem drop_at {α:Type} {l:List α} {k:Nat} {d:α} (h:k<l.length):l.drop k=l.getD k d::l.drop (k+1):=by
  rw [List.drop_eq_getElem_cons h,List.getD_eq_getElem?_getD,List.getElem?_eq_getElem h];rfl
theorem mTL_step {t c:Ty} {k:Nat} {q:Bd} (h:k<t.names.length) (hnk:t.names.length=t.kids.length):mTL (t.names.drop k) (t.kids.drop k) c q =
    if idxS c.names (t.names.getD k [])<0 then (false,q)
    else if (mT (t.kids.getD k Ty.zero) (c.kids.getD (idxS c.names (t.names.getD k [])).toNat Ty.zero) q).1=true then mTL (t.names.drop (k+1)) (t.kids.drop (k+1)) c (mT (t.kids.getD k Ty.zero) (c.kids.getD (idxS c.names (t.names.getD k [])).toNat Ty.zero) q).2
    else (false,(mT (t.kids.getD k Ty.zero) (c.kids.getD (idxS c.names (t.names.getD k [])).toNat Ty.zero) q).2):=by
  rw [drop_at (d:=[]) h,drop_at (l:=t.kids) (d:=Ty.zero) oq,mTL]
theorem mTL_end {t c:Ty} {k:Nat} {q:Bd} (h:t.names.length≤k):mTL (t.names.drop k) (t.kids.drop k) c q=(true,q):=by
  rw [List.drop_of_length_le h];unfold mTL;rfl
theorem sm_mset {m:Bd} (hm:bdSm m) {n:Int} {t:Ty} (ht:t.sz<100000000):bdSm (mset n t m):=by
  intro k x h
  rw [mget_mset] at h
  split at h
  · cases h;exact ht
  · exact hm k x h
mutual
theorem sm_mT:∀ (t c:Ty) (m:Bd),gd c→c.sz<100000000→bdSm m→bdSm (mT t c m).2
  | .mk k x n ns ks,c,m,hc,hs,hm=>by
    rw [mT]
    split
    · exact sm_mset hm hs
    · split
      · exact hm
      · rename_i h1 h2
        split
        · rename_i h5
          have hc5:c.kind=5:=by
            by_cases e:k=c.kind
            · omega
            · exact absurd (.inl e) h2
          have hL:=sm_mTL ns ks c m hc hs hm
          split
          · split
            · exact hL
            · refine sm_mset hL ?_
              have:=(gd_ok hc).2 hc5
              rw [recT_wo this.2 this.1]
              exact Nat.lt_of_le_of_lt (woT_sz this.1 _) hs
          · exact hL
        · split
          · match ks with
            | []=>exact hm
            | t::l =>
              by_cases h0:0<c.kids.length
              · exact sm_mT t (c.kids.getD 0 Ty.zero) m (gd_at hc 0 h0) (Nat.lt_trans (sz_kid c 0 h0) hs) hm
              · have e:c.kids.getD 0 Ty.zero=Ty.zero:=by rw [List.getD_eq_getElem?_getD,List.getElem?_eq_none oq];rfl
                rw [mT0,e]
                exact sm_mT t Ty.zero m gd_zero (by simp [Ty.zero,Ty.sz,szS,Ty.szL]) hm
          · exact hm
theorem sm_mTL:∀ (ns:List (List UInt8)) (ks:List Ty) (c:Ty) (m:Bd),gd c→c.sz<100000000→bdSm m→bdSm (mTL ns ks c m).2
  | [],_,c,m,_,_,hm=>by unfold mTL;exact hm
  | _::_,[],c,m,_,_,hm=>by unfold mTL;exact hm
  | s::ns,t::ks,c,m,hc,hs,hm=>by
    rw [mTL]
    split
    · exact hm
    · have hk:gd (c.kids.getD (idxS c.names s).toNat Ty.zero)∧(c.kids.getD (idxS c.names s).toNat Ty.zero).sz<100000000:=by
        by_cases h0:(idxS c.names s).toNat<c.kids.length
        · exact ⟨gd_at hc _ h0,Nat.lt_trans (sz_kid c _ h0) hs⟩
        · rw [List.getD_eq_getElem?_getD,List.getElem?_eq_none oq]
          exact ⟨gd_zero,by simp [Ty.zero,Ty.sz,szS,Ty.szL]⟩
      have h1:=sm_mT t (c.kids.getD (idxS c.names s).toNat Ty.zero) m hk.1 hk.2 hm
      split
      · exact sm_mTL ns ks c _ hc hs h1
      · exact h1
end
end Go.Proofs.YtdikgijfekfaoaaGreatDoor
namespace Go.Proofs.YtdikgijfekfaoaaGreatDoor
open Go.Proofs.YtdikgijfekfaoaaGreatDoor.Abs
set_option maxRecDepth 20000
set_option maxHeartbeats 4000000
theorem mT_a {t c:Ty} {m r:Bd} (h5:t.kind=5) (h:¬ (¬ t.kind=c.kind∨¬ t.name=c.name)) (hL:mTL t.names t.kids c m=(false,r)):mT t c m=(false,r):=by
  rw [mT_5f h5 h (by rw [hL];simp),hL]
theorem mT_b {t c:Ty} {m r:Bd} (h5:t.kind=5) (h:¬ (¬ t.kind=c.kind∨¬ t.name=c.name)) (hL:mTL t.names t.kids c m=(true,r)) (hn:¬ t.n=0):mT t c m=(bdOk r t.n (recT (onL c t c.names.length) c.n),mset t.n (recT (onL c t c.names.length) c.n) r):=by
  rw [mT_5n h5 h (by rw [hL]) hn,hL]
theorem mT_c {t c:Ty} {m r:Bd} (h5:t.kind=5) (h:¬ (¬ t.kind=c.kind∨¬ t.name=c.name)) (hL:mTL t.names t.kids c m=(true,r)) (hn:t.n=0):mT t c m=(decide (c.n=0) && decide (t.names.length=c.names.length),r):=by
  rw [mT_5z h5 h (by rw [hL]) hn,hL]
theorem rec_sz {t c:Ty} (hg:gd c) (h:c.kind=5) (hs:c.sz<100000000):(recT (onL c t c.names.length) c.n).sz<100000000:=by
  have:=(gd_ok hg).2 h
  rw [recT_wo this.2 this.1]
  exact Nat.lt_of_le_of_lt (woT_sz this.1 _) hs
theorem ne_ok {a b:Int} {x y:List UInt8} (h1:a=b) (h2:x=y):¬ (¬ a=b∨¬ x=y):=by
  rintro (h|h)
  · exact h h1
  · exact h h2
noncomputable def c62:Code:=bodyOf Tryz.f62
theorem match_spec (t c:Ty) (m:Bd) (hs:t.sz<100000000) (hsc:c.sz<100000000) (hg:gd t) (hgc:gd c) (hm:bdSm m):CallsA cx 62 [Ty.v t,Ty.v c,.map 0] [.map (encM (AVal.int .i64) Ty.v m)] (fun v h=>v=(.bool ((mT t c m).1))∧h=[.map (encM (AVal.int .i64) Ty.v (mT t c m).2)]):=by
 induction hN:t.sz using Nat.strongRecOn generalizing t c m with|_ N ih =>
 have ihM:∀ (x y:Ty) (m:Bd),x.sz<t.sz→y.sz<100000000→gd x→gd y→bdSm m→CallsA cx 62 [Ty.v x,Ty.v y,.map 0] [.map (encM (AVal.int .i64) Ty.v m)] (fun v h=>v=(.bool (mT x y m).1)∧h=[.map (encM (AVal.int .i64) Ty.v (mT x y m).2)]):=fun x y m h1 h2 h3 h4 h5=>ih _ (by rw [← hN];exact h1) x y m oq h2 h3 h4 h5 rfl
 have hz1:=sz_names t
 have hz2:=sz_kids t
 have hz3:=sz_names c
 have hz4:=sz_kids c
 have h4t:=(gd_ok hg).1
 have h4c:=(gd_ok hgc).1
 refine func_intro (cx:=cx) 107 1 [(ResultVar.tmp 6)] Tryz.func62 rfl rfl rfl rfl rfl zq ?_
 show wpA cx 107 1 (at_ c62 []) _ _ _
 refine qZ [(0,Ty.v t),(1,Ty.v c),(2,.map 0)] [.map (encM (AVal.int .i64) Ty.v m)] ?_ ?_
 refine qW 4 [(3,.ptr 1 0),(4,.ptr 2 0),(5,.ptr 3 0)] [.map (encM (AVal.int .i64) Ty.v m),t.bx,c.bx,.box [.map 0]] ?_ ?_
 refine qU 2 [(3,.ptr 1 0),(4,.ptr 2 0),(5,.ptr 3 0),(7,.fn (.func 98) [] [.ptr 3 0])] ?_ ?_
 refine qSeq ?_ ?_
 refine qB 0 ?_ ?_ ?_
 refine qU 4 [(3,.ptr 1 0),(4,.ptr 2 0),(5,.ptr 3 0),(7,.fn (.func 98) [] [.ptr 3 0]),(12,.bool ((t.kind)==6))] ?_ ?_
 by_cases hb1:(t.kind)=6
 refine qt (beq_iff_eq.2 hb1) ?_ ?_
 refine qV 4 ?_ ?_
 refine vcallA (args:=[.int .i64 (t.n),.agg [.int .i64 (c.kind),.str c.name,.int .i64 (c.n),.imm (c.names.map AVal.str),.imm (c.kids.map Ty.enc)],.ptr 3 0]) (hs:=[.map (encM (AVal.int .i64) Ty.v m),t.bx,c.bx,.box [.map 0]]) (hs':=[.map (encM (AVal.int .i64) Ty.v (mset (t.n) c m)),t.bx,c.bx,.box [.map 0]]) (rest:=[]) kq kq kq kq kq (tset_spec (t.n) c t c m oq hm) (by simp [AObj.belO,hpV,Ty.v]) (by simp [AObj.belO,hpV,Ty.v]) rfl (by simp [AObj.belO,hpV,Ty.v]) (by simp [AObj.belO,hpV,Ty.v]) kq ?_
 refine qR 1 [(6,.bool (bdOk m (t.n) c))] [.map (encM (AVal.int .i64) Ty.v (mset (t.n) c m)),t.bx,c.bx,.box [.map 0]] ?_ ?_
 refine wRet kq ?_
 apply iR
 apply aR
 refine leafA (l:=[.bool (bdOk m (t.n) c)]) (.inr rfl) kq (congrArg AVal.bool (congrArg Prod.fst (mT_6 aq)).symm) (by simp [awrap]) (by simp [awrap]) ?_ ?_
 refine Eq.trans (b:=[.map (encM (AVal.int .i64) Ty.v (mset (t.n) c m))]) kq ?_
 rotate_left
 · simp [AObj.belO,hpV,Ty.v]
 iterate 3 kernel_rfl
 refine qf (beq_eq_false_iff_ne.2 hb1) ?_ ?_
 refine qV 6 ?_ ?_
 by_cases hb2:(t.kind)=(c.kind)
 refine qm [26,27] (x:=((t.kind) != (c.kind))) (bne_eq_false_iff_eq.2 hb2) ?_ ?_
 refine qR 7 [(3,.ptr 1 0),(4,.ptr 2 0),(5,.ptr 3 0),(7,.fn (.func 98) [] [.ptr 3 0]),(21,.bool (!(t.name==c.name)))] [.map (encM (AVal.int .i64) Ty.v m),t.bx,c.bx,.box [.map 0]] ?_ ?_
 by_cases hb3:t.name=c.name
 refine qf (x:=(!(t.name==c.name))) (congrArg not (beq_iff_eq.2 hb3)) ?_ ?_
 refine qU 4 [(3,.ptr 1 0),(4,.ptr 2 0),(5,.ptr 3 0),(7,.fn (.func 98) [] [.ptr 3 0]),(34,.bool ((t.kind)==5))] ?_ ?_
 by_cases hb4:(t.kind)=5
 refine qt (beq_iff_eq.2 hb4) ?_ ?_
 refine qSeq ?_ ?_
 refine qV 2 ?_ ?_
 refine qy (o_lenmap (l:=t.names) (enc:=AVal.str) kq ty22) ?_ ?_ ?_
 refine qR 1 [(3,.ptr 1 0),(4,.ptr 2 0),(5,.ptr 3 0),(7,.fn (.func 98) [] [.ptr 3 0]),(39,.imm (t.names.map AVal.str)),(40,nI t.names.length),(41,.int .i64 0)] [.map (encM (AVal.int .i64) Ty.v m),t.bx,c.bx,.box [.map 0]] ?_ ?_
 refine qB 1 ?_ ?_ ?_
 refine wLoop (σ:=(Nat×Bd)) (fun ⟨k,q⟩=>[(3,.ptr 1 0),(4,.ptr 2 0),(5,.ptr 3 0),(7,.fn (.func 98) [] [.ptr 3 0]),(39,.imm (t.names.map AVal.str)),(40,.int .i64 ((t.names.length:Nat):Int)),(41,.int .i64 ((k:Nat):Int))]) (fun ⟨k,q⟩=>[.map (encM (AVal.int .i64) Ty.v q),t.bx,c.bx,.box [.map 0]]) (fun ⟨k,q⟩=>k≤t.names.length∧mTL t.names t.kids c m=mTL (t.names.drop k) (t.kids.drop k) c q∧bdSm q) (fun ⟨k,q⟩=>t.names.length - k) (0,m) kq (by exact ⟨Nat.zero_le _,rfl,hm⟩) ⟨⟨kq,kq,kq,kq,kq,kq,kq,trivial⟩,by simp [BelL,AVal.bel],by simp,kq,by simp [AObj.belO]⟩ ?_
 rintro ⟨k,q⟩ ⟨hk,hL,hq⟩
 have hix:=idxS_le c.names (t.names.getD k [])
 have hnk:=((gd_ok hg).2 oq).1
 have hnc:=((gd_ok hgc).2 oq).1
 refine qZ [(3,.ptr 1 0),(4,.ptr 2 0),(5,.ptr 3 0),(7,.fn (.func 98) [] [.ptr 3 0]),(39,.imm (t.names.map AVal.str)),(40,nI t.names.length),(41,nI k)] [.map (encM (AVal.int .i64) Ty.v q),t.bx,c.bx,.box [.map 0]] ?_ ?_
 refine qU 1 [(3,.ptr 1 0),(4,.ptr 2 0),(5,.ptr 3 0),(7,.fn (.func 98) [] [.ptr 3 0]),(39,.imm (t.names.map AVal.str)),(40,nI t.names.length),(41,nI k),(42,.bool (decide (((k:Nat):Int)<((t.names.length:Nat):Int))))] ?_ ?_
 refine qSeq ?_ ?_
 by_cases hb5:((k:Nat):Int)<((t.names.length:Nat):Int)
 refine qt (decide_eq_true hb5) ?_ ?_
 refine qK ?_ ?_
 refine qz [(3,.ptr 1 0),(4,.ptr 2 0),(5,.ptr 3 0),(7,.fn (.func 98) [] [.ptr 3 0]),(39,.imm (t.names.map AVal.str)),(40,nI t.names.length),(41,nI k)] ?_ ?_
 refine qSeq ?_ ?_
 refine qB 2 ?_ ?_ ?_
 refine qV 1 ?_ ?_
 refine qy (o_ixmap (k:=.i64) (l:=t.names) (enc:=AVal.str) (i:=((k:Nat):Int)) [] kq ty22 ty9 (fun _=>rfl) oq oq) ?_ ?_ ?_
 refine qR 3 [(3,.ptr 1 0),(4,.ptr 2 0),(5,.ptr 3 0),(7,.fn (.func 98) [] [.ptr 3 0]),(8,nI k),(9,.str (t.names.getD k [])),(39,.imm (t.names.map AVal.str)),(40,nI t.names.length),(41,nI k)] [.map (encM (AVal.int .i64) Ty.v q),t.bx,c.bx,.box [.map 0]] ?_ ?_
 refine qV 3 ?_ ?_
 refine vcallP (args:=[.imm (c.names.map AVal.str),.str (t.names.getD k [])]) kq kq kq kq (slIndex_spec c.names (t.names.getD k []) oq) (by simp [Ty.v,frzL_app,Occ.v]) (by simp [Ty.v]) (by simp [Ty.v,ownsL_app]) ?_
 refine qR 1 [(3,.ptr 1 0),(4,.ptr 2 0),(5,.ptr 3 0),(7,.fn (.func 98) [] [.ptr 3 0]),(8,nI k),(10,.int .i64 (idxS c.names (t.names.getD k []))),(39,.imm (t.names.map AVal.str)),(40,nI t.names.length),(41,nI k)] [.map (encM (AVal.int .i64) Ty.v q),t.bx,c.bx,.box [.map 0]] ?_ ?_
 refine qSeq ?_ ?_
 refine wDrw cxM kq extThen (dstart ?_)
 refine qu 3 ?_ ?_
 by_cases hb6:(idxS c.names (t.names.getD k []))<0
 refine dset 51 (.bool (decide ((idxS c.names (t.names.getD k []))<0))) (.bool true) (extD extThen) kq (congrArg AVal.bool (decide_eq_true hb6)) ?_
 refine dset 52 (.bool (decide ((idxS c.names (t.names.getD k []))<0))) (.bool true) (extD extThen) kq (congrArg AVal.bool (decide_eq_true hb6)) ?_
 refine qu 14 ?_ ?_
 refine dend kq ⟨kq,?_⟩
 refine AThen_normal ?_
 refine qZ [(3,.ptr 1 0),(4,.ptr 2 0),(5,.ptr 3 0),(7,.fn (.func 98) [] [.ptr 3 0]),(39,.imm (t.names.map AVal.str)),(40,nI t.names.length),(41,nI k),(53,.tup []),(54,.tup []),(55,.tup []),(56,.tup []),(57,.tup []),(58,.tup []),(59,.tup []),(60,.tup []),(61,.tup []),(62,.tup []),(63,.tup []),(64,.tup []),(65,.tup []),(66,.bool true)] [.map (encM (AVal.int .i64) Ty.v q),t.bx,c.bx,.box [.map 0]] ?_ ?_
 refine wIfT kq kq ?_
 refine qU 1 [(6,.bool false)] ?_ ?_
 refine wRet kq ?_
 apply iR
 apply aR
 apply aR
 apply iR
 apply aR
 apply iR
 apply aR
 refine leafA (l:=[.bool false]) (.inr rfl) kq (congrArg AVal.bool (congrArg Prod.fst (mT_a aq (ne_ok aq aq) (hL.trans ((mTL_step oq hnk).trans (if_pos aq))))).symm) (by simp [awrap]) (by simp [awrap]) ?_ ?_
 refine Eq.trans (b:=[.map (encM (AVal.int .i64) Ty.v q)]) kq ?_
 rotate_left
 · simp [AObj.belO,hpV,Ty.v]
 iterate 3 kernel_rfl
 refine dset 51 (.bool (decide ((idxS c.names (t.names.getD k []))<0))) (.bool false) (extD extThen) kq (congrArg AVal.bool (decide_eq_false hb6)) ?_
 refine dset 52 (.bool (decide ((idxS c.names (t.names.getD k []))<0))) (.bool false) (extD extThen) kq (congrArg AVal.bool (decide_eq_false hb6)) ?_
 refine qu 3 ?_ ?_
 refine qd ((o_ixmap (k:=.i64) (l:=t.kids) (enc:=Ty.enc) (i:=((k:Nat):Int)) Ty.zero kq ty23 ty25 ty_size oq oq).trans (congrArg (fun cs=>some (AVal.pimm cs 0,_)) (ty_cells (t.kids.getD k Ty.zero)))) ?_ ?_ ?_ ?_
 refine qu 4 ?_ ?_
 refine qd ((o_ixmap (k:=.i64) (l:=c.kids) (enc:=Ty.enc) (i:=(idxS c.names (t.names.getD k []))) Ty.zero kq ty23 ty25 ty_size oq oq).trans (congrArg (fun cs=>some (AVal.pimm cs 0,_)) (ty_cells (c.kids.getD (((idxS c.names (t.names.getD k []))).toNat) Ty.zero)))) ?_ ?_ ?_ ?_
 refine qu 2 ?_ ?_
 refine dcallA (args:=[.agg [.int .i64 ((t.kids.getD k Ty.zero).kind),.str (t.kids.getD k Ty.zero).name,.int .i64 ((t.kids.getD k Ty.zero).n),.imm ((t.kids.getD k Ty.zero).names.map AVal.str),.imm ((t.kids.getD k Ty.zero).kids.map Ty.enc)],.agg [.int .i64 ((c.kids.getD (((idxS c.names (t.names.getD k []))).toNat) Ty.zero).kind),.str (c.kids.getD (((idxS c.names (t.names.getD k []))).toNat) Ty.zero).name,.int .i64 ((c.kids.getD (((idxS c.names (t.names.getD k []))).toNat) Ty.zero).n),.imm ((c.kids.getD (((idxS c.names (t.names.getD k []))).toNat) Ty.zero).names.map AVal.str),.imm ((c.kids.getD (((idxS c.names (t.names.getD k []))).toNat) Ty.zero).kids.map Ty.enc)],.map 0]) (hs:=[.map (encM (AVal.int .i64) Ty.v q)]) (hs':=[.map (encM (AVal.int .i64) Ty.v (mT (t.kids.getD k Ty.zero) (c.kids.getD (((idxS c.names (t.names.getD k []))).toNat) Ty.zero) q).2)]) (rest:=[t.bx,c.bx,.box [.map 0]]) (L:=[0]) kq kq kq kq kq kq (ihM (t.kids.getD k Ty.zero) (c.kids.getD (((idxS c.names (t.names.getD k []))).toNat) Ty.zero) q (sz_kid t _ oq) (Nat.lt_trans (sz_kid c _ oq) hsc) (gd_at hg _ oq) (gd_at hgc _ oq) hq) (by simp [AObj.belO,hpV,Ty.v]) (by simp [AObj.belO,hpV,Ty.v]) rfl (by simp [AObj.belO,hpV,Ty.v]) (by simp [AObj.belO,hpV,Ty.v]) kq rfl rfl ?_
 refine qu 2 ?_ ?_
 refine dend kq ⟨kq,?_⟩
 refine AThen_normal ?_
 refine qZ [(3,.ptr 1 0),(4,.ptr 2 0),(5,.ptr 3 0),(7,.fn (.func 98) [] [.ptr 3 0]),(39,.imm (t.names.map AVal.str)),(40,nI t.names.length),(41,nI k),(53,.ptr 1 4),(54,.imm (t.kids.map Ty.enc)),(55,nI k),(56,.pimm [.int .i64 ((t.kids.getD k Ty.zero).kind),.str (t.kids.getD k Ty.zero).name,.int .i64 ((t.kids.getD k Ty.zero).n),.imm ((t.kids.getD k Ty.zero).names.map AVal.str),.imm ((t.kids.getD k Ty.zero).kids.map Ty.enc)] 0),(57,.agg [.int .i64 ((t.kids.getD k Ty.zero).kind),.str (t.kids.getD k Ty.zero).name,.int .i64 ((t.kids.getD k Ty.zero).n),.imm ((t.kids.getD k Ty.zero).names.map AVal.str),.imm ((t.kids.getD k Ty.zero).kids.map Ty.enc)]),(58,.ptr 2 4),(59,.imm (c.kids.map Ty.enc)),(60,.int .i64 (idxS c.names (t.names.getD k []))),(61,.pimm [.int .i64 ((c.kids.getD (((idxS c.names (t.names.getD k []))).toNat) Ty.zero).kind),.str (c.kids.getD (((idxS c.names (t.names.getD k []))).toNat) Ty.zero).name,.int .i64 ((c.kids.getD (((idxS c.names (t.names.getD k []))).toNat) Ty.zero).n),.imm ((c.kids.getD (((idxS c.names (t.names.getD k []))).toNat) Ty.zero).names.map AVal.str),.imm ((c.kids.getD (((idxS c.names (t.names.getD k []))).toNat) Ty.zero).kids.map Ty.enc)] 0),(62,.agg [.int .i64 ((c.kids.getD (((idxS c.names (t.names.getD k []))).toNat) Ty.zero).kind),.str (c.kids.getD (((idxS c.names (t.names.getD k []))).toNat) Ty.zero).name,.int .i64 ((c.kids.getD (((idxS c.names (t.names.getD k []))).toNat) Ty.zero).n),.imm ((c.kids.getD (((idxS c.names (t.names.getD k []))).toNat) Ty.zero).names.map AVal.str),.imm ((c.kids.getD (((idxS c.names (t.names.getD k []))).toNat) Ty.zero).kids.map Ty.enc)]),(63,.map 0),(64,.bool ((mT (t.kids.getD k Ty.zero) (c.kids.getD (((idxS c.names (t.names.getD k []))).toNat) Ty.zero) q).1)),(65,.bool (!((mT (t.kids.getD k Ty.zero) (c.kids.getD (((idxS c.names (t.names.getD k []))).toNat) Ty.zero) q).1))),(66,.bool (!((mT (t.kids.getD k Ty.zero) (c.kids.getD (((idxS c.names (t.names.getD k []))).toNat) Ty.zero) q).1)))] [.map (encM (AVal.int .i64) Ty.v (mT (t.kids.getD k Ty.zero) (c.kids.getD (((idxS c.names (t.names.getD k []))).toNat) Ty.zero) q).2),t.bx,c.bx,.box [.map 0]] ?_ ?_
 by_cases hb7:((mT (t.kids.getD k Ty.zero) (c.kids.getD (((idxS c.names (t.names.getD k []))).toNat) Ty.zero) q).1)=true
 refine qf (x:=(!((mT (t.kids.getD k Ty.zero) (c.kids.getD (((idxS c.names (t.names.getD k []))).toNat) Ty.zero) q).1))) (congrArg not (hb7)) ?_ ?_
 refine qk ?_ ?_
 refine AIn_normal ?_
 refine AThen_normal ?_
 refine qz [(3,.ptr 1 0),(4,.ptr 2 0),(5,.ptr 3 0),(7,.fn (.func 98) [] [.ptr 3 0]),(39,.imm (t.names.map AVal.str)),(40,nI t.names.length),(41,nI k),(53,.ptr 1 4),(54,.imm (t.kids.map Ty.enc)),(55,nI k),(56,.pimm [.int .i64 ((t.kids.getD k Ty.zero).kind),.str (t.kids.getD k Ty.zero).name,.int .i64 ((t.kids.getD k Ty.zero).n),.imm ((t.kids.getD k Ty.zero).names.map AVal.str),.imm ((t.kids.getD k Ty.zero).kids.map Ty.enc)] 0),(57,.agg [.int .i64 ((t.kids.getD k Ty.zero).kind),.str (t.kids.getD k Ty.zero).name,.int .i64 ((t.kids.getD k Ty.zero).n),.imm ((t.kids.getD k Ty.zero).names.map AVal.str),.imm ((t.kids.getD k Ty.zero).kids.map Ty.enc)]),(58,.ptr 2 4),(59,.imm (c.kids.map Ty.enc)),(60,.int .i64 (idxS c.names (t.names.getD k []))),(61,.pimm [.int .i64 ((c.kids.getD (((idxS c.names (t.names.getD k []))).toNat) Ty.zero).kind),.str (c.kids.getD (((idxS c.names (t.names.getD k []))).toNat) Ty.zero).name,.int .i64 ((c.kids.getD (((idxS c.names (t.names.getD k []))).toNat) Ty.zero).n),.imm ((c.kids.getD (((idxS c.names (t.names.getD k []))).toNat) Ty.zero).names.map AVal.str),.imm ((c.kids.getD (((idxS c.names (t.names.getD k []))).toNat) Ty.zero).kids.map Ty.enc)] 0),(62,.agg [.int .i64 ((c.kids.getD (((idxS c.names (t.names.getD k []))).toNat) Ty.zero).kind),.str (c.kids.getD (((idxS c.names (t.names.getD k []))).toNat) Ty.zero).name,.int .i64 ((c.kids.getD (((idxS c.names (t.names.getD k []))).toNat) Ty.zero).n),.imm ((c.kids.getD (((idxS c.names (t.names.getD k []))).toNat) Ty.zero).names.map AVal.str),.imm ((c.kids.getD (((idxS c.names (t.names.getD k []))).toNat) Ty.zero).kids.map Ty.enc)]),(63,.map 0),(64,.bool ((mT (t.kids.getD k Ty.zero) (c.kids.getD (((idxS c.names (t.names.getD k []))).toNat) Ty.zero) q).1)),(65,.bool (!((mT (t.kids.getD k Ty.zero) (c.kids.getD (((idxS c.names (t.names.getD k []))).toNat) Ty.zero) q).1)))] ?_ ?_
 refine qo ?_ ?_
 refine qy (o_add (a:=((k:Nat):Int)) (b:=1) kq oq oq) ?_ ?_ ?_
 refine qr 1 ?_ ?_
 refine qe ?_ ?_
 refine AThen_normal ⟨(k+1,(mT (t.kids.getD k Ty.zero) (c.kids.getD (idxS c.names (t.names.getD k [])).toNat Ty.zero) q).2),?_,?_,⟨⟨kq,kq,kq,kq,kq,kq,kq,trivial⟩,by simp [BelL,AVal.bel],by simp,kq,by simp [AObj.belO]⟩⟩
 · try dsimp only
   omega
 · try dsimp only
   refine ⟨by omega,?_,?_⟩
   · rw [hL,mTL_step oq hnk,if_neg aq,if_pos aq]
   · exact sm_mT _ _ _ (gd_at hgc _ oq) (Nat.lt_trans (sz_kid c _ oq) hsc) hq
 iterate 8 kernel_rfl
 refine qt (x:=(!((mT (t.kids.getD k Ty.zero) (c.kids.getD (((idxS c.names (t.names.getD k []))).toNat) Ty.zero) q).1))) (congrArg not (Bool.eq_false_iff.2 hb7)) ?_ ?_
 refine qU 1 [(6,.bool false)] ?_ ?_
 refine wRet kq ?_
 apply iR
 apply aR
 apply aR
 apply iR
 apply aR
 apply iR
 apply aR
 refine leafA (l:=[.bool false]) (.inr rfl) kq (congrArg AVal.bool (congrArg Prod.fst (mT_a aq (ne_ok aq aq) (hL.trans ((mTL_step oq hnk).trans ((if_neg aq).trans (if_neg aq)))))).symm) (by simp [awrap]) (by simp [awrap]) ?_ ?_
 refine Eq.trans (b:=[.map (encM (AVal.int .i64) Ty.v (mT (t.kids.getD k Ty.zero) (c.kids.getD (((idxS c.names (t.names.getD k []))).toNat) Ty.zero) q).2)]) kq ?_
 rotate_left
 · simp [AObj.belO,hpV,Ty.v]
 iterate 27 kernel_rfl
 refine qf (decide_eq_false hb5) ?_ ?_
 refine wExit 1 kq kq ?_
 refine AThen_exit ?_
 refine AThen_exit ?_
 refine AIn_exit ?_
 refine AThen_normal ?_
 refine qz [(3,.ptr 1 0),(4,.ptr 2 0),(7,.fn (.func 98) [] [.ptr 3 0])] ?_ ?_
 refine qSeq ?_ ?_
 refine qU 3 [(3,.ptr 1 0),(4,.ptr 2 0),(7,.fn (.func 98) [] [.ptr 3 0]),(70,.bool ((t.n) != 0))] ?_ ?_
 by_cases hb8:(t.n)=0
 refine qf (x:=((t.n) != 0)) (bne_eq_false_iff_eq.2 hb8) ?_ ?_
 refine qK ?_ ?_
 refine qz [(3,.ptr 1 0),(4,.ptr 2 0)] ?_ ?_
 refine qV 4 ?_ ?_
 by_cases hb9:(c.n)=0
 refine qm [82,83] (beq_iff_eq.2 hb9) ?_ ?_
 refine qr 2 ?_ ?_
 refine qy (o_lenmap (l:=t.names) (enc:=AVal.str) kq ty22) ?_ ?_ ?_
 refine qr 2 ?_ ?_
 refine qy (o_lenmap (l:=c.names) (enc:=AVal.str) kq ty22) ?_ ?_ ?_
 refine qR 3 [(6,.bool (((t.names.length:Nat):Int)==((c.names.length:Nat):Int)))] [.map (encM (AVal.int .i64) Ty.v q),t.bx,c.bx,.box [.map 0]] ?_ ?_
 refine wRet kq ?_
 apply iR
 apply aR
 refine leafA (l:=[.bool (((t.names.length:Nat):Int)==((c.names.length:Nat):Int))]) (.inr rfl) kq (by rw [mT_c aq (ne_ok aq aq) (hL.trans (mTL_end oq)) aq];simp [awrap, *];rw [Bool.eq_iff_iff,beq_iff_eq,decide_eq_true_eq];omega) (by simp [awrap]) (by simp [awrap]) ?_ ?_
 refine Eq.trans (b:=[.map (encM (AVal.int .i64) Ty.v q)]) kq ?_
 rotate_left
 · simp [AObj.belO,hpV,Ty.v]
 iterate 8 kernel_rfl
 refine qm [82,83] (beq_eq_false_iff_ne.2 hb9) ?_ ?_
 refine qR 9 [(6,.bool false)] [.map (encM (AVal.int .i64) Ty.v q),t.bx,c.bx,.box [.map 0]] ?_ ?_
 refine wRet kq ?_
 apply iR
 apply aR
 refine leafA (l:=[.bool false]) (.inr rfl) kq (by rw [mT_c aq (ne_ok aq aq) (hL.trans (mTL_end oq)) aq];simp [awrap, *]) (by simp [awrap]) (by simp [awrap]) ?_ ?_
 refine Eq.trans (b:=[.map (encM (AVal.int .i64) Ty.v q)]) kq ?_
 rotate_left
 · simp [AObj.belO,hpV,Ty.v]
 iterate 6 kernel_rfl
 refine qt (x:=((t.n) != 0)) (bne_iff_ne.2 hb8) ?_ ?_
 refine qSeq ?_ ?_
 refine wDrw cxM kq extThen (dstart ?_)
 refine qu 7 ?_ ?_
 refine dcallP (args:=[.agg [.int .i64 (c.kind),.str c.name,.int .i64 (c.n),.imm (c.names.map AVal.str),.imm (c.kids.map Ty.enc)],.agg [.int .i64 (t.kind),.str t.name,.int .i64 (t.n),.imm (t.names.map AVal.str),.imm (t.kids.map Ty.enc)],.int .i64 (c.n)]) kq kq kq kq kq (only_spec c t (c.n) oq oq oq) (by intro _;simp [Ty.v,frzL_app,Occ.v]) (by simp [Ty.v]) (by simp [Ty.v,ownsL_app]) ?_
 refine dcallA (args:=[.int .i64 (t.n),Ty.v (recT (onL c t c.names.length) (c.n)),.ptr 3 0]) (hs:=[.map (encM (AVal.int .i64) Ty.v q),t.bx,c.bx,.box [.map 0]]) (hs':=[.map (encM (AVal.int .i64) Ty.v (mset (t.n) (recT (onL c t c.names.length) (c.n)) q)),t.bx,c.bx,.box [.map 0]]) (rest:=[]) (L:=[0,1,2,3]) kq kq kq kq kq kq (tset_spec (t.n) (recT (onL c t c.names.length) (c.n)) t c q (rec_sz hgc oq hsc) hq) (by simp [AObj.belO,hpV,Ty.v]) (by simp [AObj.belO,hpV,Ty.v]) rfl (by simp [AObj.belO,hpV,Ty.v]) (by simp [AObj.belO,hpV,Ty.v]) kq rfl rfl ?_
 refine qu 1 ?_ ?_
 refine dend kq ⟨kq,?_⟩
 refine AThen_normal ?_
 refine qZ [(6,.bool (bdOk q (t.n) (recT (onL c t c.names.length) (c.n))))] [.map (encM (AVal.int .i64) Ty.v (mset (t.n) (recT (onL c t c.names.length) (c.n)) q)),t.bx,c.bx,.box [.map 0]] ?_ ?_
 refine wRet kq ?_
 apply aR
 apply iR
 apply aR
 refine leafA (l:=[.bool (bdOk q (t.n) (recT (onL c t c.names.length) (c.n)))]) (.inr rfl) kq (congrArg AVal.bool (congrArg Prod.fst (mT_b aq (ne_ok aq aq) (hL.trans (mTL_end oq)) aq)).symm) (by simp [awrap]) (by simp [awrap]) ?_ ?_
 refine Eq.trans (b:=[.map (encM (AVal.int .i64) Ty.v (mset (t.n) (recT (onL c t c.names.length) (c.n)) q))]) kq ?_
 rotate_left
 · simp [AObj.belO,hpV,Ty.v]
 iterate 20 kernel_rfl
 refine qf (beq_eq_false_iff_ne.2 hb4) ?_ ?_
 refine qk ?_ ?_
 refine AIn_normal ?_
 refine AThen_normal ?_
 refine qz [(3,.ptr 1 0),(4,.ptr 2 0),(5,.ptr 3 0)] ?_ ?_
 refine qSeq ?_ ?_
 refine wDrw cxM kq extThen (dstart ?_)
 refine qu 4 ?_ ?_
 by_cases hb10:(t.kind)=4
 refine dset 94 (.bool ((t.kind) != 4)) (.bool false) (extD extThen) kq (congrArg AVal.bool (bne_eq_false_iff_eq.2 hb10)) ?_
 refine dset 95 (.bool ((t.kind) != 4)) (.bool false) (extD extThen) kq (congrArg AVal.bool (bne_eq_false_iff_eq.2 hb10)) ?_
 refine qu 2 ?_ ?_
 refine qd ((o_ixmap (k:=.i64) (l:=t.kids) (enc:=Ty.enc) (i:=0) Ty.zero kq ty23 ty25 ty_size oq oq).trans (congrArg (fun cs=>some (AVal.pimm cs 0,_)) (ty_cells (t.kids.getD 0 Ty.zero)))) ?_ ?_ ?_ ?_
 refine qu 3 ?_ ?_
 refine qd ((o_ixmap (k:=.i64) (l:=c.kids) (enc:=Ty.enc) (i:=0) Ty.zero kq ty23 ty25 ty_size oq oq).trans (congrArg (fun cs=>some (AVal.pimm cs 0,_)) (ty_cells (c.kids.getD 0 Ty.zero)))) ?_ ?_ ?_ ?_
 refine qu 2 ?_ ?_
 refine dcallA (args:=[.agg [.int .i64 ((t.kids.getD 0 Ty.zero).kind),.str (t.kids.getD 0 Ty.zero).name,.int .i64 ((t.kids.getD 0 Ty.zero).n),.imm ((t.kids.getD 0 Ty.zero).names.map AVal.str),.imm ((t.kids.getD 0 Ty.zero).kids.map Ty.enc)],.agg [.int .i64 ((c.kids.getD 0 Ty.zero).kind),.str (c.kids.getD 0 Ty.zero).name,.int .i64 ((c.kids.getD 0 Ty.zero).n),.imm ((c.kids.getD 0 Ty.zero).names.map AVal.str),.imm ((c.kids.getD 0 Ty.zero).kids.map Ty.enc)],.map 0]) (hs:=[.map (encM (AVal.int .i64) Ty.v m)]) (hs':=[.map (encM (AVal.int .i64) Ty.v (mT (t.kids.getD 0 Ty.zero) (c.kids.getD 0 Ty.zero) m).2)]) (rest:=[t.bx,c.bx,.box [.map 0]]) (L:=[0]) kq kq kq kq kq kq (ihM (t.kids.getD 0 Ty.zero) (c.kids.getD 0 Ty.zero) m (sz_kid t _ oq) (Nat.lt_trans (sz_kid c _ oq) hsc) (gd_at hg _ oq) (gd_at hgc _ oq) hm) (by simp [AObj.belO,hpV,Ty.v]) (by simp [AObj.belO,hpV,Ty.v]) rfl (by simp [AObj.belO,hpV,Ty.v]) (by simp [AObj.belO,hpV,Ty.v]) kq rfl rfl ?_
 refine qu 2 ?_ ?_
 refine dend kq ⟨kq,?_⟩
 refine AThen_normal ?_
 refine qZ [(6,.bool ((mT (t.kids.getD 0 Ty.zero) (c.kids.getD 0 Ty.zero) m).1))] [.map (encM (AVal.int .i64) Ty.v (mT (t.kids.getD 0 Ty.zero) (c.kids.getD 0 Ty.zero) m).2),t.bx,c.bx,.box [.map 0]] ?_ ?_
 refine wRet kq ?_
 refine leafA (l:=[.bool ((mT (t.kids.getD 0 Ty.zero) (c.kids.getD 0 Ty.zero) m).1)]) (.inr rfl) kq (congrArg AVal.bool (congrArg Prod.fst (mT_4 aq (ne_ok aq aq) oq)).symm) (by simp [awrap]) (by simp [awrap]) ?_ ?_
 refine Eq.trans (b:=[.map (encM (AVal.int .i64) Ty.v (mT (t.kids.getD 0 Ty.zero) (c.kids.getD 0 Ty.zero) m).2)]) kq ?_
 rotate_left
 · simp [AObj.belO,hpV,Ty.v]
 iterate 11 kernel_rfl
 refine dset 94 (.bool ((t.kind) != 4)) (.bool true) (extD extThen) kq (congrArg AVal.bool (bne_iff_ne.2 hb10)) ?_
 refine dset 95 (.bool ((t.kind) != 4)) (.bool true) (extD extThen) kq (congrArg AVal.bool (bne_iff_ne.2 hb10)) ?_
 refine qu 12 ?_ ?_
 refine dend kq ⟨kq,?_⟩
 refine AThen_normal ?_
 refine qZ [(6,.bool true)] [.map (encM (AVal.int .i64) Ty.v m),t.bx,c.bx,.box [.map 0]] ?_ ?_
 refine wRet kq ?_
 refine leafA (l:=[.bool true]) (.inr rfl) kq (congrArg AVal.bool (congrArg Prod.fst (mT_o aq (ne_ok aq aq) aq aq)).symm) (by simp [awrap]) (by simp [awrap]) ?_ ?_
 refine Eq.trans (b:=[.map (encM (AVal.int .i64) Ty.v m)]) kq ?_
 rotate_left
 · simp [AObj.belO,hpV,Ty.v]
 iterate 9 kernel_rfl
 refine qt (x:=(!(t.name==c.name))) (congrArg not (beq_eq_false_iff_ne.2 hb3)) ?_ ?_
 refine qU 1 [(6,.bool false)] ?_ ?_
 refine wRet kq ?_
 apply iR
 apply aR
 refine leafA (l:=[.bool false]) (.inr rfl) kq (congrArg AVal.bool (congrArg Prod.fst (mT_ne aq (.inr aq))).symm) (by simp [awrap]) (by simp [awrap]) ?_ ?_
 refine Eq.trans (b:=[.map (encM (AVal.int .i64) Ty.v m)]) kq ?_
 rotate_left
 · simp [AObj.belO,hpV,Ty.v]
 iterate 4 kernel_rfl
 refine qm [26,27] (x:=((t.kind) != (c.kind))) (bne_iff_ne.2 hb2) ?_ ?_
 refine qR 7 [(3,.ptr 1 0),(4,.ptr 2 0),(5,.ptr 3 0),(7,.fn (.func 98) [] [.ptr 3 0]),(21,.bool true)] [.map (encM (AVal.int .i64) Ty.v m),t.bx,c.bx,.box [.map 0]] ?_ ?_
 refine wIfT kq kq ?_
 refine qU 1 [(6,.bool false)] ?_ ?_
 refine wRet kq ?_
 apply iR
 apply aR
 refine leafA (l:=[.bool false]) (.inr rfl) kq (congrArg AVal.bool (congrArg Prod.fst (mT_ne aq (.inl aq))).symm) (by simp [awrap]) (by simp [awrap]) ?_ ?_
 refine Eq.trans (b:=[.map (encM (AVal.int .i64) Ty.v m)]) kq ?_
 rotate_left
 · simp [AObj.belO,hpV,Ty.v]
 iterate 12 kernel_rfl
 all_goals
  refine congrArg (fun z=>[AObj.map (encM (AVal.int .i64) Ty.v z)]) ?_
  first|exact (congrArg Prod.snd (mT_6 aq)).symm|exact (congrArg Prod.snd (mT_ne aq (.inl aq))).symm|exact (congrArg Prod.snd (mT_ne aq (.inr aq))).symm|exact (congrArg Prod.snd (mT_a aq (ne_ok aq aq) (hL.trans ((mTL_step oq hnk).trans (if_pos aq))))).symm|exact (congrArg Prod.snd (mT_a aq (ne_ok aq aq) (hL.trans ((mTL_step oq hnk).trans ((if_neg aq).trans (if_neg aq)))))).symm|exact (congrArg Prod.snd (mT_b aq (ne_ok aq aq) (hL.trans (mTL_end oq)) aq)).symm|exact (congrArg Prod.snd (mT_4 aq (ne_ok aq aq) oq)).symm|exact (congrArg Prod.snd (mT_o aq (ne_ok aq aq) aq aq)).symm|exact (congrArg Prod.snd (mT_c aq (ne_ok aq aq) (hL.trans (mTL_end oq)) aq)).symm
end Go.Proofs.YtdikgijfekfaoaaGreatDoor
namespace Go.Proofs.YtdikgijfekfaoaaGreatDoor
open Go.Proofs.YtdikgijfekfaoaaGreatDoor.Abs
set_option maxRecDepth 20000
set_option maxHeartbeats 4000000
def okO (t:Ty):Prop:=¬ t.kind=5→¬ t.kind=6→t.n=0∧t.names=[]
mutual
def gn:Ty→Prop
  | .mk k x n l ks=>okO (.mk k x n l ks)∧gnL ks
def gnL:List Ty→Prop
  | []=>True
  | t::l=>gn t∧gnL l
end
end Go.Proofs.YtdikgijfekfaoaaGreatDoor
namespace Go.Proofs.YtdikgijfekfaoaaGreatDoor
open Go.Proofs.YtdikgijfekfaoaaGreatDoor.Abs
theorem order_pw {l:List (List UInt8)} (h:∀ i,i+1<l.length→l.getD i []<l.getD (i+1) []):l.Pairwise (fun a b=>a<b):=by
  induction l with
  | nil=>exact .nil
  | cons x l ih =>
    have hl:l.Pairwise (fun a b=>a<b):=ih fun i hi=>by have:=h (i+1) (by simp;omega);simpa only [List.getD_cons_succ] using this
    refine List.pairwise_cons.2 ⟨fun y hy=>?_,hl⟩
    cases l with
    | nil=>simp at hy
    | cons z l =>
      have hz:x<z:=by have:=h 0 zq;simpa using this
      simp only [List.mem_cons] at hy
      rcases hy with rfl|hy
      · exact hz
      · exact List.lt_trans hz ((List.pairwise_cons.1 hl).1 y hy)
theorem nm_pw {l:List (List UInt8)} (h:nmOk l=true):l.Pairwise (fun a b=>a<b):=by
  refine order_pw fun i hi=>?_
  have:=List.all_eq_true.1 h (i+1) (List.mem_range.2 hi)
  simp only [nmAt,Bool.and_eq_true,Bool.or_eq_true,sLess_lt,decide_eq_true_eq,beq_iff_eq,Nat.add_sub_cancel] at this
  rcases this.2 with h0|h0
  · omega
  · exact h0
theorem fmd_ok {t:Ty} (h:fmd t=true):okN t∧okO t:=by
  unfold fmd at h
  unfold okN okO
  split at h
  · rename_i hk
    have h':=of_decide_eq_true h
    refine ⟨⟨fun h4=>by omega,fun h5=>by omega⟩,fun _ _=>⟨h'.2.1,List.eq_nil_of_length_eq_zero h'.2.2.1⟩⟩
  · split at h
    · have h':=of_decide_eq_true h
      refine ⟨⟨fun h4=>by omega,fun h5=>by omega⟩,fun _ _=>⟨h'.1,List.eq_nil_of_length_eq_zero h'.2.1⟩⟩
    · split at h
      · have h':=of_decide_eq_true h
        refine ⟨⟨fun _=>h'.2.2.2,fun h5=>by omega⟩,fun _ _=>⟨h'.2.1,List.eq_nil_of_length_eq_zero h'.2.2.1⟩⟩
      · split at h
        · refine ⟨⟨fun h4=>by omega,fun h5=>by omega⟩,fun _ h6=>by omega⟩
        · split at h
          · have h':=of_decide_eq_true h
            refine ⟨⟨fun h4=>by omega,fun _=>⟨h'.2.2.2,nm_pw h'.1⟩⟩,fun h5 _=>by omega⟩
          · simp at h
theorem step_ok {s:VSt} {t:Ty} (h:(stepV s t).ok=true):s.ok=true∧fmd t=true:=by
  unfold stepV at h
  split at h
  · simpa using h
  · split at h
    · simp only [Bool.and_eq_true] at h;exact h.1
    · simpa using h
mutual
theorem vis_ok:∀ (t:Ty) (s:VSt),(visV s t).ok=true→s.ok=true∧gd t∧gn t
  | .mk k x n l ks,s,h=>by
    rw [visV] at h
    simp only [gd,gn]
    split at h
    · have h1:=step_ok h
      have h2:=visL_ok ks s h1.1
      exact ⟨h2.1,⟨(fmd_ok h1.2).1,h2.2.1⟩,(fmd_ok h1.2).2,h2.2.2⟩
    · have h2:=visL_ok ks _ h
      have h1:=step_ok h2.1
      exact ⟨h1.1,⟨(fmd_ok h1.2).1,h2.2.1⟩,(fmd_ok h1.2).2,h2.2.2⟩
theorem visL_ok:∀ (l:List Ty) (s:VSt),(visVL s l).ok=true→s.ok=true∧gdL l∧gnL l
  | [],s,h=>by simp only [visVL] at h;exact ⟨h,by simp [gdL],by simp [gnL]⟩
  | t::l,s,h=>by
    rw [visVL] at h
    have h2:=visL_ok l _ h
    have h1:=vis_ok t s h2.1
    simp only [gdL,gnL]
    exact ⟨h1.1,⟨h1.2.1,h2.2.1⟩,h1.2.2,h2.2.2⟩
end
theorem valid_gd {t:Ty} (h:validB t=true):gd t∧gn t:=by
  unfold validB okL at h
  rw [Bool.and_eq_true] at h
  exact (vis_ok t _ h.1).2
end Go.Proofs.YtdikgijfekfaoaaGreatDoor
