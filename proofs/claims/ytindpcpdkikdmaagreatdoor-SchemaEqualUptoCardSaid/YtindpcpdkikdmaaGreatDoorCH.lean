/- Open of the reference. No condition. -/
import Derived.Test.YtindpcpdkikdmaaGreatDoorCG
set_option linter.all false
namespace Go.Proofs.YtindpcpdkikdmaaGreatDoor
open Go.Proofs.YtindpcpdkikdmaaGreatDoor.Abs
set_option maxRecDepth 20000
set_option maxHeartbeats 4000000
def idxS (l:List (List UInt8)) (s:List UInt8):Int:=match l.findIdx? (·==s) with
 | some i=>(i:Nat)
 | none=>-1
theorem idxS_some {l:List (List UInt8)} {s:List UInt8} {k:Nat} (hk:k<l.length) (ha:∀ i,i<k→¬ s=l.getD i []) (h:s=l.getD k []):((k:Nat):Int)=idxS l s:=by
 have e:∀ i (h:i<l.length),l.getD i []=l[i]:=fun i h=>by rw [List.getD_eq_getElem?_getD,List.getElem?_eq_getElem h];rfl
 have:l.findIdx? (·==s)=some k:=by
  rw [List.findIdx?_eq_some_iff_getElem]
  refine ⟨hk,by rw [← e k hk,← h];simp,fun j hj=>?_⟩
  have:=ha j hj
  rw [e j oq] at this
  simpa using fun h=>this h.symm
 simp [idxS,this]
theorem idxS_none {l:List (List UInt8)} {s:List UInt8} (ha:∀ i,i<l.length→¬ s=l.getD i []):-1=idxS l s:=by
 have:l.findIdx? (·==s)=none:=by
  rw [List.findIdx?_eq_none_iff]
  intro x hx
  obtain ⟨i,hi,rfl⟩:=List.getElem_of_mem hx
  have:=ha i hi
  rw [List.getD_eq_getElem?_getD,List.getElem?_eq_getElem hi] at this
  simpa using fun h:l[i]=s=>this h.symm
 simp [idxS,this]
theorem idxS_le (l:List (List UInt8)) (s:List UInt8):-1≤idxS l s∧idxS l s<(l.length:Nat)∨l=[]∧idxS l s=-1:=by
 unfold idxS
 split
 · rename_i i hi
   obtain ⟨h1,_⟩:=List.findIdx?_eq_some_iff_getElem.1 hi
   left;omega
 · cases l with
   | nil=>right;exact ⟨rfl,rfl⟩
   | cons=>left;simp;omega
noncomputable def c59:Code:=bodyOf Tryz.f59
theorem rindex_spec (l:List (List UInt8)) (s:List UInt8) (hn:l.length<1000000000):CallsP cx 59 [.imm (l.map AVal.str),.str s] (.int .i64 (idxS l s)):=by
 refine func_intro (cx:=cx) 19 0 [(ResultVar.tmp 4)] Tryz.func59 rfl rfl rfl rfl rfl zq ?_
 show wpA cx 19 0 (at_ c59 []) _ _ _
 refine wSt [0,1] [(0,.imm (l.map AVal.str)),(1,.str s)] [] kq kq ?_
 refine wSeq kq ?_
 refine wOrd kq (vstart ?_)
 refine vrun 1 kq ?_
 refine vend kq ?_
 refine AThen_normal ?_
 refine wSt [0,1] [(0,.imm (l.map AVal.str)),(1,.str s)] [] kq kq ?_
 refine wSeq kq ?_
 refine wSeq kq ?_
 refine wOrd kq (vstart ?_)
 refine vrun 1 kq ?_
 refine vend kq ?_
 refine AThen_normal ?_
 refine wSt [0,1,5] [(0,.imm (l.map AVal.str)),(1,.str s),(5,.int .i64 0)] [] kq kq ?_
 refine wBlock 0 kq kq ?_
 refine wLoop (σ:=Nat) (fun k=>[(0,.imm (l.map AVal.str)),(1,.str s),(5,.int .i64 ((k:Nat):Int))]) (fun k=>[]) (fun k=>k≤l.length∧∀ i,i<k→¬ s=l.getD i []) (fun k=>l.length - k) 0 kq zq ⟨⟨kq,kq,kq,trivial⟩,by simp [BelL,AVal.bel],by simp,kq,by simp⟩ ?_
 rintro k ⟨hk,ha⟩
 refine wSeq kq ?_
 refine wSeq kq ?_
 refine wOrd kq (vstart ?_)
 refine vrun 2 kq ?_
 refine vsym kq kq (o_lenmap (l:=l) (enc:=AVal.str) kq ty34) ?_
 refine vrun 1 kq ?_
 refine vend kq ?_
 refine AThen_normal ?_
 refine wSt [0,1,5,9] [(0,.imm (l.map AVal.str)),(1,.str s),(5,.int .i64 ((k:Nat):Int)),(9,.bool (decide (((k:Nat):Int)<((l.length:Nat):Int))))] [] kq kq ?_
 by_cases hb1:((k:Nat):Int)<((l.length:Nat):Int)
 · refine wIfT kq (Eq.trans (b:=.bool (decide (((k:Nat):Int)<((l.length:Nat):Int)))) kq (congrArg AVal.bool (decide_eq_true hb1))) ?_
   refine wSkip kq ?_
   refine AThen_normal ?_
   refine wSt [0,1,5] [(0,.imm (l.map AVal.str)),(1,.str s),(5,.int .i64 ((k:Nat):Int))] [] kq kq ?_
   refine wSeq kq ?_
   refine wBlock 1 kq kq ?_
   refine wSeq kq ?_
   refine wOrd kq (vstart ?_)
   refine vrun 2 kq ?_
   refine vsym kq kq (o_ixmap (k:=.i64) (l:=l) (enc:=AVal.str) (i:=((k:Nat):Int)) [] kq ty34 ty9 (fun _=>rfl) oq oq) ?_
   refine vrun 3 kq ?_
   refine vend kq ?_
   refine AThen_normal ?_
   refine wSt [0,1,5,17] [(0,.imm (l.map AVal.str)),(1,.str s),(5,.int .i64 ((k:Nat):Int)),(17,.bool ((l.getD k [])==s))] [] kq kq ?_
   by_cases hb2:(l.getD k [])=s
   · refine wIfT kq (Eq.trans (b:=.bool ((l.getD k [])==s)) kq (congrArg AVal.bool (beq_iff_eq.2 hb2))) ?_
     refine wSeq kq ?_
     refine wOrd kq (vstart ?_)
     refine vrun 2 kq ?_
     refine vend kq ?_
     refine AThen_normal ?_
     refine wSt [4] [(4,.int .i64 ((k:Nat):Int))] [] kq kq ?_
     refine wRet kq ?_
     refine AIn_ret ?_
     refine AThen_ret ?_
     refine AThen_ret ?_
     refine AIn_ret ?_
     refine AThen_ret ?_
     refine leafI (n:=((k:Nat):Int)) (.inr rfl) kq ?_
     first|exact idxS_some oq ha (Eq.symm aq)|exact idxS_none (fun i hi=>ha i oq)
   · refine wIfF kq (Eq.trans (b:=.bool ((l.getD k [])==s)) kq (congrArg AVal.bool (beq_eq_false_iff_ne.2 hb2))) ?_
     refine wSkip kq ?_
     refine AIn_normal ?_
     refine AThen_normal ?_
     refine wSt [0,1,5] [(0,.imm (l.map AVal.str)),(1,.str s),(5,.int .i64 ((k:Nat):Int))] [] kq kq ?_
     refine wOrd kq (vstart ?_)
     refine vrun 1 kq ?_
     refine vsym kq kq (o_add (a:=((k:Nat):Int)) (b:=1) kq oq oq) ?_
     refine vrun 1 kq ?_
     refine vend kq ?_
     refine AThen_normal ⟨k+1,?_,?_,⟨⟨kq,kq,kq,trivial⟩,by simp [BelL,AVal.bel],by simp,kq,by simp⟩⟩
     · omega
     · refine ⟨by omega,fun i hi=>?_⟩
       rcases Nat.lt_succ_iff_lt_or_eq.1 hi with h|h
       · exact ha i h
       · subst h;intro hc;exact absurd hc.symm aq
 · refine wIfF kq (Eq.trans (b:=.bool (decide (((k:Nat):Int)<((l.length:Nat):Int)))) kq (congrArg AVal.bool (decide_eq_false hb1))) ?_
   refine wExit 0 kq kq ?_
   refine AThen_exit ?_
   refine AThen_exit ?_
   refine AIn_exit ?_
   refine AThen_normal ?_
   refine wSt [] [] [] kq kq ?_
   refine wSeq kq ?_
   refine wOrd kq (vstart ?_)
   refine vrun 1 kq ?_
   refine vend kq ?_
   refine AThen_normal ?_
   refine wSt [4] [(4,.int .i64 (-1))] [] kq kq ?_
   refine wRet kq ?_
   refine leafI (n:=(-1)) (.inr rfl) kq ?_
   first|exact idxS_some oq ha (Eq.symm aq)|exact idxS_none (fun i hi=>ha i oq)
@[simp] theorem Ty.kind_mk (k:Int) (x:List UInt8) (n:Int) (l:List (List UInt8)) (ks:List Ty):(Ty.mk k x n l ks).kind=k:=rfl
@[simp] theorem Ty.name_mk (k:Int) (x:List UInt8) (n:Int) (l:List (List UInt8)) (ks:List Ty):(Ty.mk k x n l ks).name=x:=rfl
@[simp] theorem Ty.n_mk (k:Int) (x:List UInt8) (n:Int) (l:List (List UInt8)) (ks:List Ty):(Ty.mk k x n l ks).n=n:=rfl
@[simp] theorem Ty.names_mk (k:Int) (x:List UInt8) (n:Int) (l:List (List UInt8)) (ks:List Ty):(Ty.mk k x n l ks).names=l:=rfl
@[simp] theorem Ty.kids_mk (k:Int) (x:List UInt8) (n:Int) (l:List (List UInt8)) (ks:List Ty):(Ty.mk k x n l ks).kids=ks:=rfl
theorem frz_list {t x:Ty} {h:AHeap} (h4:t.kind=4):(awrap [.agg [.int .i64 t.kind,.str t.name,.int .i64 t.n,.imm (t.names.map AVal.str),.full [x.v]]]).frz h=(Ty.mk 4 t.name t.n t.names [x]).v∧(Ty.mk 4 t.name t.n t.names [x]).v.bel 0=true:=by
 refine ⟨?_,by simp⟩
 rw [h4]
 have e:(Ty.mk 4 t.name t.n t.names [x]).v=.agg [.int .i64 4,.str t.name,.int .i64 t.n,.imm (t.names.map .str),.imm [x.enc]]:=rfl
 rw [e,Ty.enc_v]
 simp only [awrap,AVal.frz,frzL,frzL_strs,frz_tyv]
theorem ty_ok2 (t:Ty):t.enc.cells.length=5∧t.enc.cells.all AVal.cellOk=true:=by rw [ty_cells];exact ⟨rfl,rfl⟩
theorem ty_with (p q:Ty):p.enc.withCells q.enc.cells=some q.enc:=by rw [Ty.enc_v,Ty.enc_v];rfl
theorem closed_2 {l:List Int} {q:Nat} {d:Int} (hl:i64L l) (hq:(q:Int)+100 * d≤1000000) (hd:0≤d∧d≤2):CallsA cx 58 [.imm (l.map (.int .i64)),.int .i64 (q:Nat),.int .i64 d] [] (fun v h=>((closedT l d.toNat q).kind=5∧v=recV (closedT l d.toNat q)∧h=recH (closedT l d.toNat q))∨(¬ (closedT l d.toNat q).kind=5∧v=(closedT l d.toNat q).v∧h=[])):=by
 refine CallsA_post (closed_raw l q d hl hq hd) ?_
 rintro v h (h1|h1)
 · exact .inl (.inl h1)
 · exact .inr ⟨by rw [h1.2];simp,.inr ⟨h1.1,h1.2,rfl⟩⟩
theorem recF_nk (kid:Nat→Ty):∀ f i w o,o.names.length=o.kids.length→(recF kid f i w o).names.length=(recF kid f i w o).kids.length
 | 0,i,w,o,h=>h
 | f+1,i,w,o,h=>by
  simp only [recF]
  refine recF_nk kid f _ _ _ ?_
  split
  · exact putT_nk _ _ _ h
  · exact h
theorem closedT_nk (l:List Int) (d q:Nat) (h:(closedT l d q).kind=5):(closedT l d q).names.length=(closedT l d q).kids.length:=by
 have hb:∀ k,(baseT k).names.length=(baseT k).kids.length:=by
  intro k;unfold baseT;split
  · rfl
  · split <;> rfl
 cases d with
 | zero=>exact hb _
 | succ d =>
  unfold closedT at h ⊢
  split
  · exact hb _
  · split
    · rename_i h1 h2;rw [if_neg h1,if_pos h2] at h;simp [Ty.kind] at h
    · exact recF_nk _ _ _ _ _ rfl
def opF (names:List (List UInt8)) (kid:Nat→Ty):Nat→Nat→Int→List Ty→Int×List Ty
 | 0,_,m,ks=>(m,ks)
 | f+1,i,m,ks=>if idxS names (nms.getD i []) ≥ 0 then opF names kid f (i+1) (2 * m+1) (ks.set (idxS names (nms.getD i [])).toNat (kid i)) else opF names kid f (i+1) (2 * m) ks
def openT (l:List Int):Nat→Nat→Ty
 | 0,q=>if pickI l (q+7) 5=0 then .mk 6 [] (1+pickI l (q+8) 2) [] [] else closedT l 0 q
 | d+1,q=>if pickI l (q+7) 5=0 then .mk 6 [] (1+pickI l (q+8) 2) [] []
  else if (closedT l (d+1) q).kind=4 then .mk 4 (closedT l (d+1) q).name (closedT l (d+1) q).n (closedT l (d+1) q).names [openT l d (q+1)]
  else if (closedT l (d+1) q).kind=5 then
   .mk 5 (closedT l (d+1) q).name (if pickI l (q+7) 5<3 then 11+(opF (closedT l (d+1) q).names (fun i=>openT l d (q+3+i)) 4 0 0 (closedT l (d+1) q).kids).1 else (closedT l (d+1) q).n) (closedT l (d+1) q).names
    (opF (closedT l (d+1) q).names (fun i=>openT l d (q+3+i)) 4 0 0 (closedT l (d+1) q).kids).2
  else closedT l (d+1) q
theorem pow_16 (i:Nat) (h:i≤4):(2:Int) ^ i≤16:=by
 match i,h with
 | 0,_=>decide
 | 1,_=>decide
 | 2,_=>decide
 | 3,_=>decide
 | 4,_=>decide
theorem opF_y {names:List (List UInt8)} {kid:Nat→Ty} {i:Nat} {m:Int} {ks:List Ty} (h:i<4) (hx:idxS names (nms.getD i []) ≥ 0):opF names kid (4 - i) i m ks=opF names kid (4 - (i+1)) (i+1) (2 * m+1) (ks.set (idxS names (nms.getD i [])).toNat (kid i)):=by
 rw [show 4 - i=(4 - (i+1))+1 by omega,opF,if_pos hx]
theorem opF_n {names:List (List UInt8)} {kid:Nat→Ty} {i:Nat} {m:Int} {ks:List Ty} (h:i<4) (hx:¬ idxS names (nms.getD i []) ≥ 0):opF names kid (4 - i) i m ks=opF names kid (4 - (i+1)) (i+1) (2 * m) ks:=by
 rw [show 4 - i=(4 - (i+1))+1 by omega,opF,if_neg hx]
theorem openT_0 {l:List Int} {q:Nat} {d:Int} (hk:pickI l (q+7) 5=0):openT l d.toNat q=.mk 6 [] (1+pickI l (q+8) 2) [] []:=by
 cases d.toNat <;> rw [openT,if_pos hk]
theorem openT_c {l:List Int} {q:Nat} {d:Int} (hk:¬ pickI l (q+7) 5=0) (hd:¬ d > 0∨(¬ (closedT l d.toNat q).kind=4∧¬ (closedT l d.toNat q).kind=5)):openT l d.toNat q=closedT l d.toNat q:=by
 by_cases h0:d > 0
 · rcases hd with h|⟨h4,h5⟩
   · exact absurd h0 h
   · rw [toNat_s h0] at h4 h5 ⊢;rw [openT,if_neg hk,if_neg h4,if_neg h5]
 · have:d.toNat=0:=by omega
   rw [this,openT,if_neg hk]
theorem openT_4 {l:List Int} {q:Nat} {d:Int} (hk:¬ pickI l (q+7) 5=0) (h0:d > 0) (h4:(closedT l d.toNat q).kind=4):openT l d.toNat q=.mk 4 (closedT l d.toNat q).name (closedT l d.toNat q).n (closedT l d.toNat q).names [openT l (d - 1).toNat (q+1)]:=by
 rw [toNat_s h0] at h4 ⊢;rw [openT,if_neg hk,if_pos h4]
theorem openT_5 {l:List Int} {q:Nat} {d:Int} (hk:¬ pickI l (q+7) 5=0) (h0:d > 0) (h5:(closedT l d.toNat q).kind=5):openT l d.toNat q=.mk 5 (closedT l d.toNat q).name (if pickI l (q+7) 5<3 then 11+(opF (closedT l d.toNat q).names (fun i=>openT l (d - 1).toNat (q+3+i)) 4 0 0 (closedT l d.toNat q).kids).1 else (closedT l d.toNat q).n) (closedT l d.toNat q).names (opF (closedT l d.toNat q).names (fun i=>openT l (d - 1).toNat (q+3+i)) 4 0 0 (closedT l d.toNat q).kids).2:=by
 rw [toNat_s h0] at h5 ⊢;rw [openT,if_neg hk,if_neg oq,if_pos h5]
noncomputable def c23:Code:=bodyOf Tryz.f23
theorem open_spec (l:List Int) (q:Nat) (d:Int) (hl:i64L l) (hq:(q:Int)+100 * d≤900000) (hd:0≤d∧d≤2):CallsP cx 23 [.imm (l.map (AVal.int .i64)),.int .i64 ((q:Nat):Int),.int .i64 (d)] (Ty.v (openT l d.toNat q)):=by
 induction hN:d.toNat using Nat.strongRecOn generalizing q d with|_ N ih =>
 rw [← hN]
 have ihO:∀ q':Nat,0<d→(q':Int)+100 * (d - 1)≤900000→CallsP cx 23 [.imm (l.map (.int .i64)),.int .i64 (q':Nat),.int .i64 (d - 1)] (openT l (d - 1).toNat q').v:=fun q' h1 h2=>ih _ oq q' (d - 1) h2 oq rfl
 have hnm:=nms_len
 have hsm:=fun q=>closedT_small l d.toNat q oq
 have hz1:=sz_names (closedT l d.toNat q)
 have hz2:=sz_kids (closedT l d.toNat q)
 refine func_intro (cx:=cx) 85 0 [(ResultVar.cell 6 54)] Tryz.func23 rfl rfl rfl rfl rfl zq ?_
 show wpA cx 85 0 (at_ c23 []) _ _ _
 refine wSt [0,1,2] [(0,.imm (l.map (AVal.int .i64))),(1,.int .i64 ((q:Nat):Int)),(2,.int .i64 (d))] [] kq kq ?_
 refine wSeq kq ?_
 refine wOrd kq (vstart ?_)
 refine vrun 1 kq ?_
 refine vend kq ?_
 refine AThen_normal ?_
 refine wSt [0,1,2,6] [(0,.imm (l.map (AVal.int .i64))),(1,.int .i64 ((q:Nat):Int)),(2,.int .i64 (d)),(6,.ptr 0 0)] [.box [.int .i64 0,.str [],.int .i64 0,.full [],.full []]] kq kq ?_
 refine wSeq kq ?_
 refine wOrd kq (vstart ?_)
 refine vrun 3 kq ?_
 refine vgrow2 (args:=[.imm (l.map (AVal.int .i64)),.int .i64 ((q:Nat):Int),.int .i64 (d)]) (args':=[.imm (l.map (AVal.int .i64)),.int .i64 ((q:Nat):Int),.int .i64 (d)]) (V1':=.agg [.int .i64 ((closedT l d.toNat q).kind),.str (closedT l d.toNat q).name,.int .i64 ((closedT l d.toNat q).n),.imm ((closedT l d.toNat q).names.map AVal.str),.own 1 0 (closedT l d.toNat q).kids.length]) (G1':=[.arr 5 ((closedT l d.toNat q).kids.map Ty.enc) 0]) (V2':=Ty.v (closedT l d.toNat q)) (G2':=[]) (F:=[.box [.int .i64 0,.str [],.int .i64 0,.full [],.full []]]) kq kq kq kq (closed_2 hl oq hd) [.box [.int .i64 0,.str [],.int .i64 0,.full [],.full []]] kq (by simp [AVal.frz,frzL,AVal.ren,renL,renH,AObj.ren,lendR,frzH,ownsL,AVal.owns,recV,recH,Ty.v]) (by simp [AVal.frz,frzL,AVal.ren,renL,renH,AObj.ren,lendR,frzH,ownsL,AVal.owns,recV,recH,Ty.v]) (by simp [AVal.frz,frzL,AVal.ren,renL,renH,AObj.ren,lendR,frzH,ownsL,AVal.owns,recV,recH,Ty.v]) (by simp [AVal.frz,frzL,AVal.ren,renL,renH,AObj.ren,lendR,frzH,ownsL,AVal.owns,recV,recH,Ty.v]) (by simp [AVal.frz,frzL,AVal.ren,renL,renH,AObj.ren,lendR,frzH,ownsL,AVal.owns,recV,recH,Ty.v]) (by simp [AVal.frz,frzL,AVal.ren,renL,renH,AObj.ren,lendR,frzH,ownsL,AVal.owns,recV,recH,Ty.v]) (by simp [AVal.frz,frzL,AVal.ren,renL,renH,AObj.ren,lendR,frzH,ownsL,AVal.owns,recV,recH,Ty.v]) ?_ ?_
 · intro h5
   refine vrun 2 kq ?_
   refine vend kq ?_
   refine AThen_normal ?_
   refine wSt [0,1,2,6,7] [(0,.imm (l.map (AVal.int .i64))),(1,.int .i64 ((q:Nat):Int)),(2,.int .i64 (d)),(6,.ptr 0 0),(7,.ptr 2 0)] [.box [.int .i64 0,.str [],.int .i64 0,.full [],.full []],.arr 5 ((closedT l d.toNat q).kids.map Ty.enc) 0,.box [.int .i64 ((closedT l d.toNat q).kind),.str (closedT l d.toNat q).name,.int .i64 ((closedT l d.toNat q).n),.imm ((closedT l d.toNat q).names.map AVal.str),.own 1 0 (closedT l d.toNat q).kids.length]] kq kq ?_
   refine wSeq kq ?_
   refine wOrd kq (vstart ?_)
   refine vrun 2 kq ?_
   refine vsym kq kq (o_add (a:=((q:Nat):Int)) (b:=7) kq (by first|omega|assumption|decide) (by first|omega|assumption|decide)) ?_
   refine vcallP (args:=[.imm (l.map (AVal.int .i64)),.int .i64 (((q+7):Nat):Int),.int .i64 5]) kq kq kq kq (pick_spec l (q+7) 5 (by first|omega|assumption|decide) (by first|omega|assumption|decide)) (by simp [Ty.v,Ex.v,Ct.v,Co.v,Rf.v,Sm.v,Tb.v,Sc.v]) (by simp [Ty.v,Ex.v,Ct.v,Co.v,Rf.v,Sm.v,Tb.v,Sc.v]) (by simp [Ty.v,Ex.v,Ct.v,Co.v,Rf.v,Sm.v,Tb.v,Sc.v]) ?_
   have hv1:=pickI_bd l (q+7) 5 dq
   refine vrun 1 kq ?_
   refine vend kq ?_
   refine AThen_normal ?_
   refine wSt [0,1,2,6,7,8] [(0,.imm (l.map (AVal.int .i64))),(1,.int .i64 ((q:Nat):Int)),(2,.int .i64 (d)),(6,.ptr 0 0),(7,.ptr 2 0),(8,.int .i64 (pickI l (q+7) 5))] [.box [.int .i64 0,.str [],.int .i64 0,.full [],.full []],.arr 5 ((closedT l d.toNat q).kids.map Ty.enc) 0,.box [.int .i64 ((closedT l d.toNat q).kind),.str (closedT l d.toNat q).name,.int .i64 ((closedT l d.toNat q).n),.imm ((closedT l d.toNat q).names.map AVal.str),.own 1 0 (closedT l d.toNat q).kids.length]] kq kq ?_
   refine wSeq kq ?_
   refine wSeq kq ?_
   refine wOrd kq (vstart ?_)
   refine vrun 2 kq ?_
   refine vend kq ?_
   refine AThen_normal ?_
   refine wSt [0,1,2,6,7,8,21] [(0,.imm (l.map (AVal.int .i64))),(1,.int .i64 ((q:Nat):Int)),(2,.int .i64 (d)),(6,.ptr 0 0),(7,.ptr 2 0),(8,.int .i64 (pickI l (q+7) 5)),(21,.bool ((pickI l (q+7) 5)==0))] [.box [.int .i64 0,.str [],.int .i64 0,.full [],.full []],.arr 5 ((closedT l d.toNat q).kids.map Ty.enc) 0,.box [.int .i64 ((closedT l d.toNat q).kind),.str (closedT l d.toNat q).name,.int .i64 ((closedT l d.toNat q).n),.imm ((closedT l d.toNat q).names.map AVal.str),.own 1 0 (closedT l d.toNat q).kids.length]] kq kq ?_
   by_cases hb2:(pickI l (q+7) 5)=0
   · refine wIfT kq (Eq.trans (b:=.bool ((pickI l (q+7) 5)==0)) kq (congrArg AVal.bool (beq_iff_eq.2 hb2))) ?_
     refine wSeq kq ?_
     refine wOrd kq (vstart ?_)
     refine vrun 2 kq ?_
     refine vsym kq kq (o_add (a:=((q:Nat):Int)) (b:=8) kq (by first|omega|assumption|decide) (by first|omega|assumption|decide)) ?_
     refine vcallP (args:=[.imm (l.map (AVal.int .i64)),.int .i64 (((q+8):Nat):Int),.int .i64 2]) kq kq kq kq (pick_spec l (q+8) 2 (by first|omega|assumption|decide) (by first|omega|assumption|decide)) (by simp [Ty.v,Ex.v,Ct.v,Co.v,Rf.v,Sm.v,Tb.v,Sc.v]) (by simp [Ty.v,Ex.v,Ct.v,Co.v,Rf.v,Sm.v,Tb.v,Sc.v]) (by simp [Ty.v,Ex.v,Ct.v,Co.v,Rf.v,Sm.v,Tb.v,Sc.v]) ?_
     have hv3:=pickI_bd l (q+8) 2 dq
     refine vsym kq kq (o_add (a:=1) (b:=(pickI l (q+8) 2)) kq (by first|omega|assumption|decide) (by first|omega|assumption|decide)) ?_
     refine vrun 2 kq ?_
     refine vend kq ?_
     refine AThen_normal ?_
     refine wSt [6] [(6,.ptr 0 0)] [.box [.int .i64 6,.str [],.int .i64 (1+(pickI l (q+8) 2)),.full [],.full []],.arr 5 ((closedT l d.toNat q).kids.map Ty.enc) 0,.box [.int .i64 ((closedT l d.toNat q).kind),.str (closedT l d.toNat q).name,.int .i64 ((closedT l d.toNat q).n),.imm ((closedT l d.toNat q).names.map AVal.str),.own 1 0 (closedT l d.toNat q).kids.length]] kq kq ?_
     refine wRet kq ?_
     refine AThen_ret ?_
     refine leafP (l:=[.agg [.int .i64 6,.str [],.int .i64 (1+(pickI l (q+8) 2)),.full [],.full []]]) (.inr rfl) kq ?_
     first|(rw [openT_0 aq];simp [awrap,AVal.frz,frzL,Ty.v,Ty.kind,Ty.name,Ty.n,Ty.names,Ty.kids];done)|(rw [openT_c aq (by first|(left;assumption)|(left;omega)|(right;exact ⟨by assumption,by assumption⟩)|(right;exact ⟨by omega,by omega⟩))];simp [awrap,AVal.frz,frzL,Ty.v];done)|(rw [openT_4 (l:=l) (q:=q) (d:=d) aq oq aq];have h4:=(by assumption:(closedT l d.toNat q).kind=4);exact frz_list h4)|(rw [openT_5 aq oq h5,← hR,show 4 - i=0 by omega];(first|rw [if_pos aq]|rw [if_neg aq]);simp [opF,awrap,AVal.frz,frzL,Ty.v,hkl,h5];done)
   · refine wIfF kq (Eq.trans (b:=.bool ((pickI l (q+7) 5)==0)) kq (congrArg AVal.bool (beq_eq_false_iff_ne.2 hb2))) ?_
     refine wSkip kq ?_
     refine AThen_normal ?_
     refine wSt [0,1,2,6,7,8] [(0,.imm (l.map (AVal.int .i64))),(1,.int .i64 ((q:Nat):Int)),(2,.int .i64 (d)),(6,.ptr 0 0),(7,.ptr 2 0),(8,.int .i64 (pickI l (q+7) 5))] [.box [.int .i64 0,.str [],.int .i64 0,.full [],.full []],.arr 5 ((closedT l d.toNat q).kids.map Ty.enc) 0,.box [.int .i64 ((closedT l d.toNat q).kind),.str (closedT l d.toNat q).name,.int .i64 ((closedT l d.toNat q).n),.imm ((closedT l d.toNat q).names.map AVal.str),.own 1 0 (closedT l d.toNat q).kids.length]] kq kq ?_
     refine wSeq kq ?_
     refine wSeq kq ?_
     refine wOrd kq (vstart ?_)
     refine vrun 4 kq ?_
     by_cases hb4:((closedT l d.toNat q).kind)=4
     · exfalso;omega
     · refine vset 30 (.bool (((closedT l d.toNat q).kind)==4)) (.bool false) (extO extThen) kq (congrArg AVal.bool (beq_eq_false_iff_ne.2 hb4)) ?_
       refine vset 31 (.bool (((closedT l d.toNat q).kind)==4)) (.bool false) (extO extThen) kq (congrArg AVal.bool (beq_eq_false_iff_ne.2 hb4)) ?_
       refine vrun 3 kq ?_
       refine vend kq ?_
       refine AThen_normal ?_
       refine wSt [0,1,2,6,7,8,34] [(0,.imm (l.map (AVal.int .i64))),(1,.int .i64 ((q:Nat):Int)),(2,.int .i64 (d)),(6,.ptr 0 0),(7,.ptr 2 0),(8,.int .i64 (pickI l (q+7) 5)),(34,.bool false)] [.box [.int .i64 0,.str [],.int .i64 0,.full [],.full []],.arr 5 ((closedT l d.toNat q).kids.map Ty.enc) 0,.box [.int .i64 ((closedT l d.toNat q).kind),.str (closedT l d.toNat q).name,.int .i64 ((closedT l d.toNat q).n),.imm ((closedT l d.toNat q).names.map AVal.str),.own 1 0 (closedT l d.toNat q).kids.length]] kq kq ?_
       refine wIfF kq kq ?_
       refine wSkip kq ?_
       refine AThen_normal ?_
       refine wSt [0,1,2,6,7,8] [(0,.imm (l.map (AVal.int .i64))),(1,.int .i64 ((q:Nat):Int)),(2,.int .i64 (d)),(6,.ptr 0 0),(7,.ptr 2 0),(8,.int .i64 (pickI l (q+7) 5))] [.box [.int .i64 0,.str [],.int .i64 0,.full [],.full []],.arr 5 ((closedT l d.toNat q).kids.map Ty.enc) 0,.box [.int .i64 ((closedT l d.toNat q).kind),.str (closedT l d.toNat q).name,.int .i64 ((closedT l d.toNat q).n),.imm ((closedT l d.toNat q).names.map AVal.str),.own 1 0 (closedT l d.toNat q).kids.length]] kq kq ?_
       refine wSeq kq ?_
       refine wSeq kq ?_
       refine wOrd kq (vstart ?_)
       refine vrun 4 kq ?_
       by_cases hb5:((closedT l d.toNat q).kind)=5
       · refine vset 45 (.bool (((closedT l d.toNat q).kind)==5)) (.bool true) (extO extThen) kq (congrArg AVal.bool (beq_iff_eq.2 hb5)) ?_
         refine vset 46 (.bool (((closedT l d.toNat q).kind)==5)) (.bool true) (extO extThen) kq (congrArg AVal.bool (beq_iff_eq.2 hb5)) ?_
         refine vrun 3 kq ?_
         refine vend kq ?_
         refine AThen_normal ?_
         refine wSt [0,1,2,6,7,8,49] [(0,.imm (l.map (AVal.int .i64))),(1,.int .i64 ((q:Nat):Int)),(2,.int .i64 (d)),(6,.ptr 0 0),(7,.ptr 2 0),(8,.int .i64 (pickI l (q+7) 5)),(49,.bool (decide ((d) > 0)))] [.box [.int .i64 0,.str [],.int .i64 0,.full [],.full []],.arr 5 ((closedT l d.toNat q).kids.map Ty.enc) 0,.box [.int .i64 ((closedT l d.toNat q).kind),.str (closedT l d.toNat q).name,.int .i64 ((closedT l d.toNat q).n),.imm ((closedT l d.toNat q).names.map AVal.str),.own 1 0 (closedT l d.toNat q).kids.length]] kq kq ?_
         by_cases hb6:(d) > 0
         · refine wIfT kq (Eq.trans (b:=.bool (decide ((d) > 0))) kq (congrArg AVal.bool (decide_eq_true hb6))) ?_
           refine wSeq kq ?_
           refine wOrd kq (vstart ?_)
           refine vrun 1 kq ?_
           refine vend kq ?_
           refine AThen_normal ?_
           refine wSt [0,1,2,6,7,8,9] [(0,.imm (l.map (AVal.int .i64))),(1,.int .i64 ((q:Nat):Int)),(2,.int .i64 (d)),(6,.ptr 0 0),(7,.ptr 2 0),(8,.int .i64 (pickI l (q+7) 5)),(9,.int .i64 0)] [.box [.int .i64 0,.str [],.int .i64 0,.full [],.full []],.arr 5 ((closedT l d.toNat q).kids.map Ty.enc) 0,.box [.int .i64 ((closedT l d.toNat q).kind),.str (closedT l d.toNat q).name,.int .i64 ((closedT l d.toNat q).n),.imm ((closedT l d.toNat q).names.map AVal.str),.own 1 0 (closedT l d.toNat q).kids.length]] kq kq ?_
           refine wSeq kq ?_
           refine wSeq kq ?_
           refine wOrd kq (vstart ?_)
           refine vrun 1 kq ?_
           refine vend kq ?_
           refine AThen_normal ?_
           refine wSt [0,1,2,6,7,8,9,10] [(0,.imm (l.map (AVal.int .i64))),(1,.int .i64 ((q:Nat):Int)),(2,.int .i64 (d)),(6,.ptr 0 0),(7,.ptr 2 0),(8,.int .i64 (pickI l (q+7) 5)),(9,.int .i64 0),(10,.int .i64 0)] [.box [.int .i64 0,.str [],.int .i64 0,.full [],.full []],.arr 5 ((closedT l d.toNat q).kids.map Ty.enc) 0,.box [.int .i64 ((closedT l d.toNat q).kind),.str (closedT l d.toNat q).name,.int .i64 ((closedT l d.toNat q).n),.imm ((closedT l d.toNat q).names.map AVal.str),.own 1 0 (closedT l d.toNat q).kids.length]] kq kq ?_
           refine wBlock 0 kq kq ?_
           refine wLoop (σ:=(Nat×Int×List Ty)) (fun ⟨i,m,ks⟩=>[(0,.imm (l.map (AVal.int .i64))),(1,.int .i64 ((q:Nat):Int)),(2,.int .i64 (d)),(6,.ptr 0 0),(7,.ptr 2 0),(8,.int .i64 (pickI l (q+7) 5)),(9,.int .i64 (m)),(10,.int .i64 ((i:Nat):Int))]) (fun ⟨i,m,ks⟩=>[.box [.int .i64 0,.str [],.int .i64 0,.full [],.full []],.arr 5 (ks.map Ty.enc) 0,.box [.int .i64 ((closedT l d.toNat q).kind),.str (closedT l d.toNat q).name,.int .i64 ((closedT l d.toNat q).n),.imm ((closedT l d.toNat q).names.map AVal.str),.own 1 0 (closedT l d.toNat q).kids.length]]) (fun ⟨i,m,ks⟩=>((i≤4∧0≤m∧m+1≤(2:Int) ^ i)∧ks.length=(closedT l d.toNat q).kids.length)∧opF (closedT l d.toNat q).names (fun i=>openT l (d - 1).toNat (q+3+i)) (4 - i) i m ks=(opF (closedT l d.toNat q).names (fun i=>openT l (d - 1).toNat (q+3+i)) 4 0 0 (closedT l d.toNat q).kids)) (fun ⟨i,m,ks⟩=>4 - i) (0,0,(closedT l d.toNat q).kids) kq (by exact ⟨⟨⟨by omega,by omega,by decide⟩,rfl⟩,rfl⟩) ⟨⟨kq,kq,kq,kq,kq,kq,kq,kq,trivial⟩,by simp [BelL,AVal.bel],by simp,kq,by simp [AObj.belO,-List.map_set]⟩ ?_
           rintro ⟨i,m,ks⟩ ⟨⟨⟨hi,hm0,hm1⟩,hkl⟩,hR⟩
           have hp:=pow_16 i hi
           have hix:=idxS_le (closedT l d.toNat q).names (nms.getD i [])
           have hnk2:=closedT_nk l d.toNat q h5
           have hsq:=hsm q
           refine wSt [0,1,2,6,7,8,9,10] [(0,.imm (l.map (AVal.int .i64))),(1,.int .i64 ((q:Nat):Int)),(2,.int .i64 (d)),(6,.ptr 0 0),(7,.ptr 2 0),(8,.int .i64 (pickI l (q+7) 5)),(9,.int .i64 (m)),(10,.int .i64 ((i:Nat):Int))] [.box [.int .i64 0,.str [],.int .i64 0,.full [],.full []],.arr 5 (ks.map Ty.enc) 0,.box [.int .i64 ((closedT l d.toNat q).kind),.str (closedT l d.toNat q).name,.int .i64 ((closedT l d.toNat q).n),.imm ((closedT l d.toNat q).names.map AVal.str),.own 1 0 (closedT l d.toNat q).kids.length]] kq kq ?_
           refine wSeq kq ?_
           refine wSeq kq ?_
           refine wOrd kq (vstart ?_)
           refine vrun 2 kq ?_
           refine vend kq ?_
           refine AThen_normal ?_
           refine wSt [0,1,2,6,7,8,9,10,51] [(0,.imm (l.map (AVal.int .i64))),(1,.int .i64 ((q:Nat):Int)),(2,.int .i64 (d)),(6,.ptr 0 0),(7,.ptr 2 0),(8,.int .i64 (pickI l (q+7) 5)),(9,.int .i64 (m)),(10,.int .i64 ((i:Nat):Int)),(51,.bool (decide (((i:Nat):Int)<4)))] [.box [.int .i64 0,.str [],.int .i64 0,.full [],.full []],.arr 5 (ks.map Ty.enc) 0,.box [.int .i64 ((closedT l d.toNat q).kind),.str (closedT l d.toNat q).name,.int .i64 ((closedT l d.toNat q).n),.imm ((closedT l d.toNat q).names.map AVal.str),.own 1 0 (closedT l d.toNat q).kids.length]] kq kq ?_
           by_cases hb7:((i:Nat):Int)<4
           · refine wIfT kq (Eq.trans (b:=.bool (decide (((i:Nat):Int)<4))) kq (congrArg AVal.bool (decide_eq_true hb7))) ?_
             refine wSkip kq ?_
             refine AThen_normal ?_
             refine wSt [0,1,2,6,7,8,9,10] [(0,.imm (l.map (AVal.int .i64))),(1,.int .i64 ((q:Nat):Int)),(2,.int .i64 (d)),(6,.ptr 0 0),(7,.ptr 2 0),(8,.int .i64 (pickI l (q+7) 5)),(9,.int .i64 (m)),(10,.int .i64 ((i:Nat):Int))] [.box [.int .i64 0,.str [],.int .i64 0,.full [],.full []],.arr 5 (ks.map Ty.enc) 0,.box [.int .i64 ((closedT l d.toNat q).kind),.str (closedT l d.toNat q).name,.int .i64 ((closedT l d.toNat q).n),.imm ((closedT l d.toNat q).names.map AVal.str),.own 1 0 (closedT l d.toNat q).kids.length]] kq kq ?_
             refine wSeq kq ?_
             refine wBlock 1 kq kq ?_
             refine wSeq kq ?_
             refine wDrw cxM kq extThen (dstart ?_)
             refine drun 2 kq ?_
             refine dcallP (args:=[]) kq kq kq kq kq (names2_spec) (fun _=>kq) kq kq ?_
             refine drun 1 kq ?_
             refine dsym kq kq kq (o_ixmap (k:=.i64) (l:=nms) (enc:=AVal.str) (i:=((i:Nat):Int)) [] kq ty34 ty9 (fun _=>rfl) (by first|omega|assumption|decide) (by first|omega|assumption|decide)) ?_
             refine drun 1 kq ?_
             refine dcallP (args:=[.imm ((closedT l d.toNat q).names.map AVal.str),.str (nms.getD i [])]) kq kq kq kq kq (rindex_spec ((closedT l d.toNat q).names) (nms.getD i []) (by first|omega|assumption|decide)) (by intro _;simp [Ty.v,Ex.v,Ct.v,Co.v,Rf.v,Sm.v,Tb.v,Sc.v]) (by simp [Ty.v,Ex.v,Ct.v,Co.v,Rf.v,Sm.v,Tb.v,Sc.v]) (by simp [Ty.v,Ex.v,Ct.v,Co.v,Rf.v,Sm.v,Tb.v,Sc.v]) ?_
             refine drun 1 kq ?_
             refine dend kq ⟨kq,?_⟩
             refine AThen_normal ?_
             refine wSt [0,1,2,6,7,8,9,10,11] [(0,.imm (l.map (AVal.int .i64))),(1,.int .i64 ((q:Nat):Int)),(2,.int .i64 (d)),(6,.ptr 0 0),(7,.ptr 2 0),(8,.int .i64 (pickI l (q+7) 5)),(9,.int .i64 (m)),(10,.int .i64 ((i:Nat):Int)),(11,.int .i64 (idxS ((closedT l d.toNat q).names) (nms.getD i [])))] [.box [.int .i64 0,.str [],.int .i64 0,.full [],.full []],.arr 5 (ks.map Ty.enc) 0,.box [.int .i64 ((closedT l d.toNat q).kind),.str (closedT l d.toNat q).name,.int .i64 ((closedT l d.toNat q).n),.imm ((closedT l d.toNat q).names.map AVal.str),.own 1 0 (closedT l d.toNat q).kids.length]] kq kq ?_
             refine wSeq kq ?_
             refine wOrd kq (vstart ?_)
             refine vrun 1 kq ?_
             refine vsym kq kq (o_mul (a:=2) (b:=(m)) kq (by first|omega|assumption|decide) (by first|omega|assumption|decide)) ?_
             refine vrun 1 kq ?_
             refine vend kq ?_
             refine AThen_normal ?_
             refine wSt [0,1,2,6,7,8,9,10,11] [(0,.imm (l.map (AVal.int .i64))),(1,.int .i64 ((q:Nat):Int)),(2,.int .i64 (d)),(6,.ptr 0 0),(7,.ptr 2 0),(8,.int .i64 (pickI l (q+7) 5)),(9,.int .i64 (2 * (m))),(10,.int .i64 ((i:Nat):Int)),(11,.int .i64 (idxS ((closedT l d.toNat q).names) (nms.getD i [])))] [.box [.int .i64 0,.str [],.int .i64 0,.full [],.full []],.arr 5 (ks.map Ty.enc) 0,.box [.int .i64 ((closedT l d.toNat q).kind),.str (closedT l d.toNat q).name,.int .i64 ((closedT l d.toNat q).n),.imm ((closedT l d.toNat q).names.map AVal.str),.own 1 0 (closedT l d.toNat q).kids.length]] kq kq ?_
             refine wSeq kq ?_
             refine wOrd kq (vstart ?_)
             refine vrun 2 kq ?_
             refine vend kq ?_
             refine AThen_normal ?_
             refine wSt [0,1,2,6,7,8,9,10,11,64] [(0,.imm (l.map (AVal.int .i64))),(1,.int .i64 ((q:Nat):Int)),(2,.int .i64 (d)),(6,.ptr 0 0),(7,.ptr 2 0),(8,.int .i64 (pickI l (q+7) 5)),(9,.int .i64 (2 * (m))),(10,.int .i64 ((i:Nat):Int)),(11,.int .i64 (idxS ((closedT l d.toNat q).names) (nms.getD i []))),(64,.bool (decide ((idxS ((closedT l d.toNat q).names) (nms.getD i [])) ≥ 0)))] [.box [.int .i64 0,.str [],.int .i64 0,.full [],.full []],.arr 5 (ks.map Ty.enc) 0,.box [.int .i64 ((closedT l d.toNat q).kind),.str (closedT l d.toNat q).name,.int .i64 ((closedT l d.toNat q).n),.imm ((closedT l d.toNat q).names.map AVal.str),.own 1 0 (closedT l d.toNat q).kids.length]] kq kq ?_
             by_cases hb8:(idxS ((closedT l d.toNat q).names) (nms.getD i [])) ≥ 0
             · refine wIfT kq (Eq.trans (b:=.bool (decide ((idxS ((closedT l d.toNat q).names) (nms.getD i [])) ≥ 0))) kq (congrArg AVal.bool (decide_eq_true hb8))) ?_
               refine wSeq kq ?_
               refine wOrd kq (vstart ?_)
               refine vrun 1 kq ?_
               refine vsym kq kq (o_add (a:=(2 * (m))) (b:=1) kq (by first|omega|assumption|decide) (by first|omega|assumption|decide)) ?_
               refine vrun 1 kq ?_
               refine vend kq ?_
               refine AThen_normal ?_
               refine wSt [0,1,2,6,7,8,9,10,11] [(0,.imm (l.map (AVal.int .i64))),(1,.int .i64 ((q:Nat):Int)),(2,.int .i64 (d)),(6,.ptr 0 0),(7,.ptr 2 0),(8,.int .i64 (pickI l (q+7) 5)),(9,.int .i64 ((2 * (m))+1)),(10,.int .i64 ((i:Nat):Int)),(11,.int .i64 (idxS ((closedT l d.toNat q).names) (nms.getD i [])))] [.box [.int .i64 0,.str [],.int .i64 0,.full [],.full []],.arr 5 (ks.map Ty.enc) 0,.box [.int .i64 ((closedT l d.toNat q).kind),.str (closedT l d.toNat q).name,.int .i64 ((closedT l d.toNat q).n),.imm ((closedT l d.toNat q).names.map AVal.str),.own 1 0 (closedT l d.toNat q).kids.length]] kq kq ?_
               refine wDrw cxM kq (extIn extThen) (dstart ?_)
               refine drun 5 kq ?_
               refine dsym kq kq kq (o_add (a:=((q:Nat):Int)) (b:=3) kq (by first|omega|assumption|decide) (by first|omega|assumption|decide)) ?_
               refine drun 1 kq ?_
               refine dsym kq kq kq (o_add (a:=(((q+3):Nat):Int)) (b:=((i:Nat):Int)) kq (by first|omega|assumption|decide) (by first|omega|assumption|decide)) ?_
               refine drun 1 kq ?_
               refine dsym kq kq kq (o_sub (a:=(d)) (b:=1) kq (by first|omega|assumption|decide) (by first|omega|assumption|decide)) ?_
               refine dcallP (args:=[.imm (l.map (AVal.int .i64)),.int .i64 ((((q+3)+i):Nat):Int),.int .i64 ((d) - 1)]) kq kq kq kq kq (ihO ((q+3)+i) (by first|omega|assumption|decide) (by first|omega|assumption|decide)) (by intro _;simp [Ty.v,Ex.v,Ct.v,Co.v,Rf.v,Sm.v,Tb.v,Sc.v]) (by simp [Ty.v,Ex.v,Ct.v,Co.v,Rf.v,Sm.v,Tb.v,Sc.v]) (by simp [Ty.v,Ex.v,Ct.v,Co.v,Rf.v,Sm.v,Tb.v,Sc.v]) ?_
               refine dsym kq kq kq (o_ixown (k:=.i64) (i:=(idxS ((closedT l d.toNat q).names) (nms.getD i []))) (o:=1) (off:=0) (len:=((closedT l d.toNat q).kids.length)) (sz:=5) (fr:=0) (es:=(ks.map Ty.enc)) kq ty52 ty54 kq rfl (by simp [hkl]) (by first|omega|assumption|decide) (by first|omega|assumption|decide)) ?_
               refine dsymO kq kq kq (o_stmap (o:=1) (k:=((ks.map Ty.enc).length)) (x:=Ty.v (openT l (d - 1).toNat ((q+3)+i))) (enc:=Ty.enc) (l:=ks) (X:=(openT l (d - 1).toNat ((q+3)+i))) (d:=Ty.zero) (idx:=(0+((idxS ((closedT l d.toNat q).names) (nms.getD i []))).toNat)) (sz:=5) kq (Ty.enc_v (openT l (d - 1).toNat ((q+3)+i))).symm kq zq (by first|omega|assumption|decide) ty54 ty_ok2 ty_with) ?_
               refine dend kq ⟨kq,?_⟩
               refine AIn_normal ?_
               refine AThen_normal ?_
               refine wSt [0,1,2,6,7,8,9,10] [(0,.imm (l.map (AVal.int .i64))),(1,.int .i64 ((q:Nat):Int)),(2,.int .i64 (d)),(6,.ptr 0 0),(7,.ptr 2 0),(8,.int .i64 (pickI l (q+7) 5)),(9,.int .i64 ((2 * (m))+1)),(10,.int .i64 ((i:Nat):Int))] [.box [.int .i64 0,.str [],.int .i64 0,.full [],.full []],.arr 5 ((ks.set (0+((idxS ((closedT l d.toNat q).names) (nms.getD i []))).toNat) (openT l (d - 1).toNat ((q+3)+i))).map Ty.enc) 0,.box [.int .i64 ((closedT l d.toNat q).kind),.str (closedT l d.toNat q).name,.int .i64 ((closedT l d.toNat q).n),.imm ((closedT l d.toNat q).names.map AVal.str),.own 1 0 (closedT l d.toNat q).kids.length]] kq kq ?_
               refine wOrd kq (vstart ?_)
               refine vrun 1 kq ?_
               refine vsym kq kq (o_add (a:=((i:Nat):Int)) (b:=1) kq (by first|omega|assumption|decide) (by first|omega|assumption|decide)) ?_
               refine vrun 1 kq ?_
               refine vend kq ?_
               refine AThen_normal ⟨(i+1,((2 * (m))+1),(ks.set (0+((idxS ((closedT l d.toNat q).names) (nms.getD i []))).toNat) (openT l (d - 1).toNat ((q+3)+i)))),?_,?_,⟨⟨kq,kq,kq,kq,kq,kq,kq,kq,trivial⟩,by simp [BelL,AVal.bel],by simp,kq,by simp [AObj.belO,-List.map_set]⟩⟩
               · try dsimp only
                 omega
               · try dsimp only
                 first|(refine ⟨⟨⟨by omega,by omega,by rw [Int.pow_succ];omega⟩,by simpa using hkl⟩,?_⟩;rw [← hR,opF_y (i:=i) (m:=m) (ks:=ks) oq aq];simp only [Nat.zero_add];done)|(refine ⟨⟨⟨by omega,by omega,by rw [Int.pow_succ];omega⟩,hkl⟩,?_⟩;rw [← hR,opF_n (i:=i) (m:=m) (ks:=ks) oq aq];done)
             · refine wIfF kq (Eq.trans (b:=.bool (decide ((idxS ((closedT l d.toNat q).names) (nms.getD i [])) ≥ 0))) kq (congrArg AVal.bool (decide_eq_false hb8))) ?_
               refine wSkip kq ?_
               refine AIn_normal ?_
               refine AThen_normal ?_
               refine wSt [0,1,2,6,7,8,9,10] [(0,.imm (l.map (AVal.int .i64))),(1,.int .i64 ((q:Nat):Int)),(2,.int .i64 (d)),(6,.ptr 0 0),(7,.ptr 2 0),(8,.int .i64 (pickI l (q+7) 5)),(9,.int .i64 (2 * (m))),(10,.int .i64 ((i:Nat):Int))] [.box [.int .i64 0,.str [],.int .i64 0,.full [],.full []],.arr 5 (ks.map Ty.enc) 0,.box [.int .i64 ((closedT l d.toNat q).kind),.str (closedT l d.toNat q).name,.int .i64 ((closedT l d.toNat q).n),.imm ((closedT l d.toNat q).names.map AVal.str),.own 1 0 (closedT l d.toNat q).kids.length]] kq kq ?_
               refine wOrd kq (vstart ?_)
               refine vrun 1 kq ?_
               refine vsym kq kq (o_add (a:=((i:Nat):Int)) (b:=1) kq (by first|omega|assumption|decide) (by first|omega|assumption|decide)) ?_
               refine vrun 1 kq ?_
               refine vend kq ?_
               refine AThen_normal ⟨(i+1,(2 * (m)),ks),?_,?_,⟨⟨kq,kq,kq,kq,kq,kq,kq,kq,trivial⟩,by simp [BelL,AVal.bel],by simp,kq,by simp [AObj.belO,-List.map_set]⟩⟩
               · try dsimp only
                 omega
               · try dsimp only
                 first|(refine ⟨⟨⟨by omega,by omega,by rw [Int.pow_succ];omega⟩,by simpa using hkl⟩,?_⟩;rw [← hR,opF_y (i:=i) (m:=m) (ks:=ks) oq aq];simp only [Nat.zero_add];done)|(refine ⟨⟨⟨by omega,by omega,by rw [Int.pow_succ];omega⟩,hkl⟩,?_⟩;rw [← hR,opF_n (i:=i) (m:=m) (ks:=ks) oq aq];done)
           · refine wIfF kq (Eq.trans (b:=.bool (decide (((i:Nat):Int)<4))) kq (congrArg AVal.bool (decide_eq_false hb7))) ?_
             refine wExit 0 kq kq ?_
             refine AThen_exit ?_
             refine AThen_exit ?_
             refine AIn_exit ?_
             refine AThen_normal ?_
             refine wSt [6,7,8,9] [(6,.ptr 0 0),(7,.ptr 2 0),(8,.int .i64 (pickI l (q+7) 5)),(9,.int .i64 (m))] [.box [.int .i64 0,.str [],.int .i64 0,.full [],.full []],.arr 5 (ks.map Ty.enc) 0,.box [.int .i64 ((closedT l d.toNat q).kind),.str (closedT l d.toNat q).name,.int .i64 ((closedT l d.toNat q).n),.imm ((closedT l d.toNat q).names.map AVal.str),.own 1 0 (closedT l d.toNat q).kids.length]] kq kq ?_
             refine wSeq kq ?_
             refine wOrd kq (vstart ?_)
             refine vrun 2 kq ?_
             refine vend kq ?_
             refine AThen_normal ?_
             refine wSt [6,7,9,80] [(6,.ptr 0 0),(7,.ptr 2 0),(9,.int .i64 (m)),(80,.bool (decide ((pickI l (q+7) 5)<3)))] [.box [.int .i64 0,.str [],.int .i64 0,.full [],.full []],.arr 5 (ks.map Ty.enc) 0,.box [.int .i64 ((closedT l d.toNat q).kind),.str (closedT l d.toNat q).name,.int .i64 ((closedT l d.toNat q).n),.imm ((closedT l d.toNat q).names.map AVal.str),.own 1 0 (closedT l d.toNat q).kids.length]] kq kq ?_
             by_cases hb9:(pickI l (q+7) 5)<3
             · refine wIfT kq (Eq.trans (b:=.bool (decide ((pickI l (q+7) 5)<3))) kq (congrArg AVal.bool (decide_eq_true hb9))) ?_
               refine wOrd kq (vstart ?_)
               refine vrun 1 kq ?_
               refine vsym kq kq (o_add (a:=11) (b:=(m)) kq (by first|omega|assumption|decide) (by first|omega|assumption|decide)) ?_
               refine vrun 2 kq ?_
               refine vend kq ?_
               refine AThen_normal ?_
               refine wSt [6,7] [(6,.ptr 0 0),(7,.ptr 2 0)] [.box [.int .i64 0,.str [],.int .i64 0,.full [],.full []],.arr 5 (ks.map Ty.enc) 0,.box [.int .i64 ((closedT l d.toNat q).kind),.str (closedT l d.toNat q).name,.int .i64 (11+(m)),.imm ((closedT l d.toNat q).names.map AVal.str),.own 1 0 (closedT l d.toNat q).kids.length]] kq kq ?_
               refine wSeq kq ?_
               refine wOrd kq (vstart ?_)
               refine vrun 2 kq ?_
               refine vend kq ?_
               refine AThen_normal ?_
               refine wSt [6] [(6,.ptr 0 0)] [.box [.int .i64 ((closedT l d.toNat q).kind),.str (closedT l d.toNat q).name,.int .i64 (11+(m)),.imm ((closedT l d.toNat q).names.map AVal.str),.own 1 0 (closedT l d.toNat q).kids.length],.arr 5 (ks.map Ty.enc) 0,.box [.int .i64 ((closedT l d.toNat q).kind),.str (closedT l d.toNat q).name,.int .i64 (11+(m)),.imm ((closedT l d.toNat q).names.map AVal.str),.own 1 0 (closedT l d.toNat q).kids.length]] kq kq ?_
               refine wRet kq ?_
               refine leafP (l:=[.agg [.int .i64 ((closedT l d.toNat q).kind),.str (closedT l d.toNat q).name,.int .i64 (11+(m)),.imm ((closedT l d.toNat q).names.map AVal.str),.own 1 0 (closedT l d.toNat q).kids.length]]) (.inr rfl) kq ?_
               first|(rw [openT_0 aq];simp [awrap,AVal.frz,frzL,Ty.v,Ty.kind,Ty.name,Ty.n,Ty.names,Ty.kids];done)|(rw [openT_c aq (by first|(left;assumption)|(left;omega)|(right;exact ⟨by assumption,by assumption⟩)|(right;exact ⟨by omega,by omega⟩))];simp [awrap,AVal.frz,frzL,Ty.v];done)|(rw [openT_4 (l:=l) (q:=q) (d:=d) aq oq aq];have h4:=(by assumption:(closedT l d.toNat q).kind=4);exact frz_list h4)|(rw [openT_5 aq oq h5,← hR,show 4 - i=0 by omega];(first|rw [if_pos aq]|rw [if_neg aq]);simp [opF,awrap,AVal.frz,frzL,Ty.v,hkl,h5];done)
             · refine wIfF kq (Eq.trans (b:=.bool (decide ((pickI l (q+7) 5)<3))) kq (congrArg AVal.bool (decide_eq_false hb9))) ?_
               refine wSkip kq ?_
               refine AThen_normal ?_
               refine wSt [6,7] [(6,.ptr 0 0),(7,.ptr 2 0)] [.box [.int .i64 0,.str [],.int .i64 0,.full [],.full []],.arr 5 (ks.map Ty.enc) 0,.box [.int .i64 ((closedT l d.toNat q).kind),.str (closedT l d.toNat q).name,.int .i64 ((closedT l d.toNat q).n),.imm ((closedT l d.toNat q).names.map AVal.str),.own 1 0 (closedT l d.toNat q).kids.length]] kq kq ?_
               refine wSeq kq ?_
               refine wOrd kq (vstart ?_)
               refine vrun 2 kq ?_
               refine vend kq ?_
               refine AThen_normal ?_
               refine wSt [6] [(6,.ptr 0 0)] [.box [.int .i64 ((closedT l d.toNat q).kind),.str (closedT l d.toNat q).name,.int .i64 ((closedT l d.toNat q).n),.imm ((closedT l d.toNat q).names.map AVal.str),.own 1 0 (closedT l d.toNat q).kids.length],.arr 5 (ks.map Ty.enc) 0,.box [.int .i64 ((closedT l d.toNat q).kind),.str (closedT l d.toNat q).name,.int .i64 ((closedT l d.toNat q).n),.imm ((closedT l d.toNat q).names.map AVal.str),.own 1 0 (closedT l d.toNat q).kids.length]] kq kq ?_
               refine wRet kq ?_
               refine leafP (l:=[.agg [.int .i64 ((closedT l d.toNat q).kind),.str (closedT l d.toNat q).name,.int .i64 ((closedT l d.toNat q).n),.imm ((closedT l d.toNat q).names.map AVal.str),.own 1 0 (closedT l d.toNat q).kids.length]]) (.inr rfl) kq ?_
               first|(rw [openT_0 aq];simp [awrap,AVal.frz,frzL,Ty.v,Ty.kind,Ty.name,Ty.n,Ty.names,Ty.kids];done)|(rw [openT_c aq (by first|(left;assumption)|(left;omega)|(right;exact ⟨by assumption,by assumption⟩)|(right;exact ⟨by omega,by omega⟩))];simp [awrap,AVal.frz,frzL,Ty.v];done)|(rw [openT_4 (l:=l) (q:=q) (d:=d) aq oq aq];have h4:=(by assumption:(closedT l d.toNat q).kind=4);exact frz_list h4)|(rw [openT_5 aq oq h5,← hR,show 4 - i=0 by omega];(first|rw [if_pos aq]|rw [if_neg aq]);simp [opF,awrap,AVal.frz,frzL,Ty.v,hkl,h5];done)
         · refine wIfF kq (Eq.trans (b:=.bool (decide ((d) > 0))) kq (congrArg AVal.bool (decide_eq_false hb6))) ?_
           refine wSkip kq ?_
           refine AThen_normal ?_
           refine wSt [6,7] [(6,.ptr 0 0),(7,.ptr 2 0)] [.box [.int .i64 0,.str [],.int .i64 0,.full [],.full []],.arr 5 ((closedT l d.toNat q).kids.map Ty.enc) 0,.box [.int .i64 ((closedT l d.toNat q).kind),.str (closedT l d.toNat q).name,.int .i64 ((closedT l d.toNat q).n),.imm ((closedT l d.toNat q).names.map AVal.str),.own 1 0 (closedT l d.toNat q).kids.length]] kq kq ?_
           refine wSeq kq ?_
           refine wOrd kq (vstart ?_)
           refine vrun 2 kq ?_
           refine vend kq ?_
           refine AThen_normal ?_
           refine wSt [6] [(6,.ptr 0 0)] [.box [.int .i64 ((closedT l d.toNat q).kind),.str (closedT l d.toNat q).name,.int .i64 ((closedT l d.toNat q).n),.imm ((closedT l d.toNat q).names.map AVal.str),.own 1 0 (closedT l d.toNat q).kids.length],.arr 5 ((closedT l d.toNat q).kids.map Ty.enc) 0,.box [.int .i64 ((closedT l d.toNat q).kind),.str (closedT l d.toNat q).name,.int .i64 ((closedT l d.toNat q).n),.imm ((closedT l d.toNat q).names.map AVal.str),.own 1 0 (closedT l d.toNat q).kids.length]] kq kq ?_
           refine wRet kq ?_
           refine leafP (l:=[.agg [.int .i64 ((closedT l d.toNat q).kind),.str (closedT l d.toNat q).name,.int .i64 ((closedT l d.toNat q).n),.imm ((closedT l d.toNat q).names.map AVal.str),.own 1 0 (closedT l d.toNat q).kids.length]]) (.inr rfl) kq ?_
           first|(rw [openT_0 aq];simp [awrap,AVal.frz,frzL,Ty.v,Ty.kind,Ty.name,Ty.n,Ty.names,Ty.kids];done)|(rw [openT_c aq (by first|(left;assumption)|(left;omega)|(right;exact ⟨by assumption,by assumption⟩)|(right;exact ⟨by omega,by omega⟩))];simp [awrap,AVal.frz,frzL,Ty.v];done)|(rw [openT_4 (l:=l) (q:=q) (d:=d) aq oq aq];have h4:=(by assumption:(closedT l d.toNat q).kind=4);exact frz_list h4)|(rw [openT_5 aq oq h5,← hR,show 4 - i=0 by omega];(first|rw [if_pos aq]|rw [if_neg aq]);simp [opF,awrap,AVal.frz,frzL,Ty.v,hkl,h5];done)
       · exfalso;omega
 · intro n5
   refine vrun 2 kq ?_
   refine vend kq ?_
   refine AThen_normal ?_
   refine wSt [0,1,2,6,7] [(0,.imm (l.map (AVal.int .i64))),(1,.int .i64 ((q:Nat):Int)),(2,.int .i64 (d)),(6,.ptr 0 0),(7,.ptr 1 0)] [.box [.int .i64 0,.str [],.int .i64 0,.full [],.full []],(closedT l d.toNat q).bx] kq kq ?_
   refine wSeq kq ?_
   refine wOrd kq (vstart ?_)
   refine vrun 2 kq ?_
   refine vsym kq kq (o_add (a:=((q:Nat):Int)) (b:=7) kq (by first|omega|assumption|decide) (by first|omega|assumption|decide)) ?_
   refine vcallP (args:=[.imm (l.map (AVal.int .i64)),.int .i64 (((q+7):Nat):Int),.int .i64 5]) kq kq kq kq (pick_spec l (q+7) 5 (by first|omega|assumption|decide) (by first|omega|assumption|decide)) (by simp [Ty.v,Ex.v,Ct.v,Co.v,Rf.v,Sm.v,Tb.v,Sc.v]) (by simp [Ty.v,Ex.v,Ct.v,Co.v,Rf.v,Sm.v,Tb.v,Sc.v]) (by simp [Ty.v,Ex.v,Ct.v,Co.v,Rf.v,Sm.v,Tb.v,Sc.v]) ?_
   have hv10:=pickI_bd l (q+7) 5 dq
   refine vrun 1 kq ?_
   refine vend kq ?_
   refine AThen_normal ?_
   refine wSt [0,1,2,6,7,8] [(0,.imm (l.map (AVal.int .i64))),(1,.int .i64 ((q:Nat):Int)),(2,.int .i64 (d)),(6,.ptr 0 0),(7,.ptr 1 0),(8,.int .i64 (pickI l (q+7) 5))] [.box [.int .i64 0,.str [],.int .i64 0,.full [],.full []],(closedT l d.toNat q).bx] kq kq ?_
   refine wSeq kq ?_
   refine wSeq kq ?_
   refine wOrd kq (vstart ?_)
   refine vrun 2 kq ?_
   refine vend kq ?_
   refine AThen_normal ?_
   refine wSt [0,1,2,6,7,8,21] [(0,.imm (l.map (AVal.int .i64))),(1,.int .i64 ((q:Nat):Int)),(2,.int .i64 (d)),(6,.ptr 0 0),(7,.ptr 1 0),(8,.int .i64 (pickI l (q+7) 5)),(21,.bool ((pickI l (q+7) 5)==0))] [.box [.int .i64 0,.str [],.int .i64 0,.full [],.full []],(closedT l d.toNat q).bx] kq kq ?_
   by_cases hb11:(pickI l (q+7) 5)=0
   · refine wIfT kq (Eq.trans (b:=.bool ((pickI l (q+7) 5)==0)) kq (congrArg AVal.bool (beq_iff_eq.2 hb11))) ?_
     refine wSeq kq ?_
     refine wOrd kq (vstart ?_)
     refine vrun 2 kq ?_
     refine vsym kq kq (o_add (a:=((q:Nat):Int)) (b:=8) kq (by first|omega|assumption|decide) (by first|omega|assumption|decide)) ?_
     refine vcallP (args:=[.imm (l.map (AVal.int .i64)),.int .i64 (((q+8):Nat):Int),.int .i64 2]) kq kq kq kq (pick_spec l (q+8) 2 (by first|omega|assumption|decide) (by first|omega|assumption|decide)) (by simp [Ty.v,Ex.v,Ct.v,Co.v,Rf.v,Sm.v,Tb.v,Sc.v]) (by simp [Ty.v,Ex.v,Ct.v,Co.v,Rf.v,Sm.v,Tb.v,Sc.v]) (by simp [Ty.v,Ex.v,Ct.v,Co.v,Rf.v,Sm.v,Tb.v,Sc.v]) ?_
     have hv12:=pickI_bd l (q+8) 2 dq
     refine vsym kq kq (o_add (a:=1) (b:=(pickI l (q+8) 2)) kq (by first|omega|assumption|decide) (by first|omega|assumption|decide)) ?_
     refine vrun 2 kq ?_
     refine vend kq ?_
     refine AThen_normal ?_
     refine wSt [6] [(6,.ptr 0 0)] [.box [.int .i64 6,.str [],.int .i64 (1+(pickI l (q+8) 2)),.full [],.full []],(closedT l d.toNat q).bx] kq kq ?_
     refine wRet kq ?_
     refine AThen_ret ?_
     refine leafP (l:=[.agg [.int .i64 6,.str [],.int .i64 (1+(pickI l (q+8) 2)),.full [],.full []]]) (.inr rfl) kq ?_
     first|(rw [openT_0 aq];simp [awrap,AVal.frz,frzL,Ty.v,Ty.kind,Ty.name,Ty.n,Ty.names,Ty.kids];done)|(rw [openT_c aq (by first|(left;assumption)|(left;omega)|(right;exact ⟨by assumption,by assumption⟩)|(right;exact ⟨by omega,by omega⟩))];simp [awrap,AVal.frz,frzL,Ty.v];done)|(rw [openT_4 (l:=l) (q:=q) (d:=d) aq oq aq];have h4:=(by assumption:(closedT l d.toNat q).kind=4);exact frz_list h4)|(rw [openT_5 aq oq h5,← hR,show 4 - i=0 by omega];(first|rw [if_pos aq]|rw [if_neg aq]);simp [opF,awrap,AVal.frz,frzL,Ty.v,hkl,h5];done)
   · refine wIfF kq (Eq.trans (b:=.bool ((pickI l (q+7) 5)==0)) kq (congrArg AVal.bool (beq_eq_false_iff_ne.2 hb11))) ?_
     refine wSkip kq ?_
     refine AThen_normal ?_
     refine wSt [0,1,2,6,7,8] [(0,.imm (l.map (AVal.int .i64))),(1,.int .i64 ((q:Nat):Int)),(2,.int .i64 (d)),(6,.ptr 0 0),(7,.ptr 1 0),(8,.int .i64 (pickI l (q+7) 5))] [.box [.int .i64 0,.str [],.int .i64 0,.full [],.full []],(closedT l d.toNat q).bx] kq kq ?_
     refine wSeq kq ?_
     refine wSeq kq ?_
     refine wOrd kq (vstart ?_)
     refine vrun 4 kq ?_
     by_cases hb13:((closedT l d.toNat q).kind)=4
     · refine vset 30 (.bool (((closedT l d.toNat q).kind)==4)) (.bool true) (extO extThen) kq (congrArg AVal.bool (beq_iff_eq.2 hb13)) ?_
       refine vset 31 (.bool (((closedT l d.toNat q).kind)==4)) (.bool true) (extO extThen) kq (congrArg AVal.bool (beq_iff_eq.2 hb13)) ?_
       refine vrun 3 kq ?_
       refine vend kq ?_
       refine AThen_normal ?_
       refine wSt [0,1,2,6,7,8,34] [(0,.imm (l.map (AVal.int .i64))),(1,.int .i64 ((q:Nat):Int)),(2,.int .i64 (d)),(6,.ptr 0 0),(7,.ptr 1 0),(8,.int .i64 (pickI l (q+7) 5)),(34,.bool (decide ((d) > 0)))] [.box [.int .i64 0,.str [],.int .i64 0,.full [],.full []],(closedT l d.toNat q).bx] kq kq ?_
       by_cases hb14:(d) > 0
       · refine wIfT kq (Eq.trans (b:=.bool (decide ((d) > 0))) kq (congrArg AVal.bool (decide_eq_true hb14))) ?_
         refine wOrd kq (vstart ?_)
         refine vrun 2 kq ?_
         refine vsym kq kq (o_add (a:=((q:Nat):Int)) (b:=1) kq (by first|omega|assumption|decide) (by first|omega|assumption|decide)) ?_
         refine vrun 1 kq ?_
         refine vsym kq kq (o_sub (a:=(d)) (b:=1) kq (by first|omega|assumption|decide) (by first|omega|assumption|decide)) ?_
         refine vcallP (args:=[.imm (l.map (AVal.int .i64)),.int .i64 (((q+1):Nat):Int),.int .i64 ((d) - 1)]) kq kq kq kq (ihO (q+1) (by first|omega|assumption|decide) (by first|omega|assumption|decide)) (by simp [Ty.v,Ex.v,Ct.v,Co.v,Rf.v,Sm.v,Tb.v,Sc.v]) (by simp [Ty.v,Ex.v,Ct.v,Co.v,Rf.v,Sm.v,Tb.v,Sc.v]) (by simp [Ty.v,Ex.v,Ct.v,Co.v,Rf.v,Sm.v,Tb.v,Sc.v]) ?_
         refine vrun 3 kq ?_
         refine vend kq ?_
         refine AThen_normal ?_
         refine wSt [0,1,2,6,7,8] [(0,.imm (l.map (AVal.int .i64))),(1,.int .i64 ((q:Nat):Int)),(2,.int .i64 (d)),(6,.ptr 0 0),(7,.ptr 1 0),(8,.int .i64 (pickI l (q+7) 5))] [.box [.int .i64 0,.str [],.int .i64 0,.full [],.full []],.box [.int .i64 ((closedT l d.toNat q).kind),.str (closedT l d.toNat q).name,.int .i64 ((closedT l d.toNat q).n),.imm ((closedT l d.toNat q).names.map AVal.str),.full [Ty.v (openT l (d - 1).toNat (q+1))]]] kq kq ?_
         refine wSeq kq ?_
         refine wSeq kq ?_
         refine wOrd kq (vstart ?_)
         refine vrun 4 kq ?_
         by_cases hb15:((closedT l d.toNat q).kind)=5
         · exfalso;omega
         · refine vset 45 (.bool (((closedT l d.toNat q).kind)==5)) (.bool false) (extO extThen) kq (congrArg AVal.bool (beq_eq_false_iff_ne.2 hb15)) ?_
           refine vset 46 (.bool (((closedT l d.toNat q).kind)==5)) (.bool false) (extO extThen) kq (congrArg AVal.bool (beq_eq_false_iff_ne.2 hb15)) ?_
           refine vrun 3 kq ?_
           refine vend kq ?_
           refine AThen_normal ?_
           refine wSt [0,1,2,6,7,8,49] [(0,.imm (l.map (AVal.int .i64))),(1,.int .i64 ((q:Nat):Int)),(2,.int .i64 (d)),(6,.ptr 0 0),(7,.ptr 1 0),(8,.int .i64 (pickI l (q+7) 5)),(49,.bool false)] [.box [.int .i64 0,.str [],.int .i64 0,.full [],.full []],.box [.int .i64 ((closedT l d.toNat q).kind),.str (closedT l d.toNat q).name,.int .i64 ((closedT l d.toNat q).n),.imm ((closedT l d.toNat q).names.map AVal.str),.full [Ty.v (openT l (d - 1).toNat (q+1))]]] kq kq ?_
           refine wIfF kq kq ?_
           refine wSkip kq ?_
           refine AThen_normal ?_
           refine wSt [6,7] [(6,.ptr 0 0),(7,.ptr 1 0)] [.box [.int .i64 0,.str [],.int .i64 0,.full [],.full []],.box [.int .i64 ((closedT l d.toNat q).kind),.str (closedT l d.toNat q).name,.int .i64 ((closedT l d.toNat q).n),.imm ((closedT l d.toNat q).names.map AVal.str),.full [Ty.v (openT l (d - 1).toNat (q+1))]]] kq kq ?_
           refine wSeq kq ?_
           refine wOrd kq (vstart ?_)
           refine vrun 2 kq ?_
           refine vend kq ?_
           refine AThen_normal ?_
           refine wSt [6] [(6,.ptr 0 0)] [.box [.int .i64 ((closedT l d.toNat q).kind),.str (closedT l d.toNat q).name,.int .i64 ((closedT l d.toNat q).n),.imm ((closedT l d.toNat q).names.map AVal.str),.full [Ty.v (openT l (d - 1).toNat (q+1))]],.box [.int .i64 ((closedT l d.toNat q).kind),.str (closedT l d.toNat q).name,.int .i64 ((closedT l d.toNat q).n),.imm ((closedT l d.toNat q).names.map AVal.str),.full [Ty.v (openT l (d - 1).toNat (q+1))]]] kq kq ?_
           refine wRet kq ?_
           refine leafP (l:=[.agg [.int .i64 ((closedT l d.toNat q).kind),.str (closedT l d.toNat q).name,.int .i64 ((closedT l d.toNat q).n),.imm ((closedT l d.toNat q).names.map AVal.str),.full [Ty.v (openT l (d - 1).toNat (q+1))]]]) (.inr rfl) kq ?_
           first|(rw [openT_0 aq];simp [awrap,AVal.frz,frzL,Ty.v,Ty.kind,Ty.name,Ty.n,Ty.names,Ty.kids];done)|(rw [openT_c aq (by first|(left;assumption)|(left;omega)|(right;exact ⟨by assumption,by assumption⟩)|(right;exact ⟨by omega,by omega⟩))];simp [awrap,AVal.frz,frzL,Ty.v];done)|(rw [openT_4 (l:=l) (q:=q) (d:=d) aq oq aq];have h4:=(by assumption:(closedT l d.toNat q).kind=4);exact frz_list h4)|(rw [openT_5 aq oq h5,← hR,show 4 - i=0 by omega];(first|rw [if_pos aq]|rw [if_neg aq]);simp [opF,awrap,AVal.frz,frzL,Ty.v,hkl,h5];done)
       · refine wIfF kq (Eq.trans (b:=.bool (decide ((d) > 0))) kq (congrArg AVal.bool (decide_eq_false hb14))) ?_
         refine wSkip kq ?_
         refine AThen_normal ?_
         refine wSt [0,1,2,6,7,8] [(0,.imm (l.map (AVal.int .i64))),(1,.int .i64 ((q:Nat):Int)),(2,.int .i64 (d)),(6,.ptr 0 0),(7,.ptr 1 0),(8,.int .i64 (pickI l (q+7) 5))] [.box [.int .i64 0,.str [],.int .i64 0,.full [],.full []],(closedT l d.toNat q).bx] kq kq ?_
         refine wSeq kq ?_
         refine wSeq kq ?_
         refine wOrd kq (vstart ?_)
         refine vrun 4 kq ?_
         by_cases hb16:((closedT l d.toNat q).kind)=5
         · exfalso;omega
         · refine vset 45 (.bool (((closedT l d.toNat q).kind)==5)) (.bool false) (extO extThen) kq (congrArg AVal.bool (beq_eq_false_iff_ne.2 hb16)) ?_
           refine vset 46 (.bool (((closedT l d.toNat q).kind)==5)) (.bool false) (extO extThen) kq (congrArg AVal.bool (beq_eq_false_iff_ne.2 hb16)) ?_
           refine vrun 3 kq ?_
           refine vend kq ?_
           refine AThen_normal ?_
           refine wSt [0,1,2,6,7,8,49] [(0,.imm (l.map (AVal.int .i64))),(1,.int .i64 ((q:Nat):Int)),(2,.int .i64 (d)),(6,.ptr 0 0),(7,.ptr 1 0),(8,.int .i64 (pickI l (q+7) 5)),(49,.bool false)] [.box [.int .i64 0,.str [],.int .i64 0,.full [],.full []],(closedT l d.toNat q).bx] kq kq ?_
           refine wIfF kq kq ?_
           refine wSkip kq ?_
           refine AThen_normal ?_
           refine wSt [6,7] [(6,.ptr 0 0),(7,.ptr 1 0)] [.box [.int .i64 0,.str [],.int .i64 0,.full [],.full []],(closedT l d.toNat q).bx] kq kq ?_
           refine wSeq kq ?_
           refine wOrd kq (vstart ?_)
           refine vrun 2 kq ?_
           refine vend kq ?_
           refine AThen_normal ?_
           refine wSt [6] [(6,.ptr 0 0)] [(closedT l d.toNat q).bx,(closedT l d.toNat q).bx] kq kq ?_
           refine wRet kq ?_
           refine leafP (l:=[.agg [.int .i64 ((closedT l d.toNat q).kind),.str (closedT l d.toNat q).name,.int .i64 ((closedT l d.toNat q).n),.imm ((closedT l d.toNat q).names.map AVal.str),.imm ((closedT l d.toNat q).kids.map Ty.enc)]]) (.inr rfl) kq ?_
           first|(rw [openT_0 aq];simp [awrap,AVal.frz,frzL,Ty.v,Ty.kind,Ty.name,Ty.n,Ty.names,Ty.kids];done)|(rw [openT_c aq (by first|(left;assumption)|(left;omega)|(right;exact ⟨by assumption,by assumption⟩)|(right;exact ⟨by omega,by omega⟩))];simp [awrap,AVal.frz,frzL,Ty.v];done)|(rw [openT_4 (l:=l) (q:=q) (d:=d) aq oq aq];have h4:=(by assumption:(closedT l d.toNat q).kind=4);exact frz_list h4)|(rw [openT_5 aq oq h5,← hR,show 4 - i=0 by omega];(first|rw [if_pos aq]|rw [if_neg aq]);simp [opF,awrap,AVal.frz,frzL,Ty.v,hkl,h5];done)
     · refine vset 30 (.bool (((closedT l d.toNat q).kind)==4)) (.bool false) (extO extThen) kq (congrArg AVal.bool (beq_eq_false_iff_ne.2 hb13)) ?_
       refine vset 31 (.bool (((closedT l d.toNat q).kind)==4)) (.bool false) (extO extThen) kq (congrArg AVal.bool (beq_eq_false_iff_ne.2 hb13)) ?_
       refine vrun 3 kq ?_
       refine vend kq ?_
       refine AThen_normal ?_
       refine wSt [0,1,2,6,7,8,34] [(0,.imm (l.map (AVal.int .i64))),(1,.int .i64 ((q:Nat):Int)),(2,.int .i64 (d)),(6,.ptr 0 0),(7,.ptr 1 0),(8,.int .i64 (pickI l (q+7) 5)),(34,.bool false)] [.box [.int .i64 0,.str [],.int .i64 0,.full [],.full []],(closedT l d.toNat q).bx] kq kq ?_
       refine wIfF kq kq ?_
       refine wSkip kq ?_
       refine AThen_normal ?_
       refine wSt [0,1,2,6,7,8] [(0,.imm (l.map (AVal.int .i64))),(1,.int .i64 ((q:Nat):Int)),(2,.int .i64 (d)),(6,.ptr 0 0),(7,.ptr 1 0),(8,.int .i64 (pickI l (q+7) 5))] [.box [.int .i64 0,.str [],.int .i64 0,.full [],.full []],(closedT l d.toNat q).bx] kq kq ?_
       refine wSeq kq ?_
       refine wSeq kq ?_
       refine wOrd kq (vstart ?_)
       refine vrun 4 kq ?_
       by_cases hb17:((closedT l d.toNat q).kind)=5
       · exfalso;omega
       · refine vset 45 (.bool (((closedT l d.toNat q).kind)==5)) (.bool false) (extO extThen) kq (congrArg AVal.bool (beq_eq_false_iff_ne.2 hb17)) ?_
         refine vset 46 (.bool (((closedT l d.toNat q).kind)==5)) (.bool false) (extO extThen) kq (congrArg AVal.bool (beq_eq_false_iff_ne.2 hb17)) ?_
         refine vrun 3 kq ?_
         refine vend kq ?_
         refine AThen_normal ?_
         refine wSt [0,1,2,6,7,8,49] [(0,.imm (l.map (AVal.int .i64))),(1,.int .i64 ((q:Nat):Int)),(2,.int .i64 (d)),(6,.ptr 0 0),(7,.ptr 1 0),(8,.int .i64 (pickI l (q+7) 5)),(49,.bool false)] [.box [.int .i64 0,.str [],.int .i64 0,.full [],.full []],(closedT l d.toNat q).bx] kq kq ?_
         refine wIfF kq kq ?_
         refine wSkip kq ?_
         refine AThen_normal ?_
         refine wSt [6,7] [(6,.ptr 0 0),(7,.ptr 1 0)] [.box [.int .i64 0,.str [],.int .i64 0,.full [],.full []],(closedT l d.toNat q).bx] kq kq ?_
         refine wSeq kq ?_
         refine wOrd kq (vstart ?_)
         refine vrun 2 kq ?_
         refine vend kq ?_
         refine AThen_normal ?_
         refine wSt [6] [(6,.ptr 0 0)] [(closedT l d.toNat q).bx,(closedT l d.toNat q).bx] kq kq ?_
         refine wRet kq ?_
         refine leafP (l:=[.agg [.int .i64 ((closedT l d.toNat q).kind),.str (closedT l d.toNat q).name,.int .i64 ((closedT l d.toNat q).n),.imm ((closedT l d.toNat q).names.map AVal.str),.imm ((closedT l d.toNat q).kids.map Ty.enc)]]) (.inr rfl) kq ?_
         first|(rw [openT_0 aq];simp [awrap,AVal.frz,frzL,Ty.v,Ty.kind,Ty.name,Ty.n,Ty.names,Ty.kids];done)|(rw [openT_c aq (by first|(left;assumption)|(left;omega)|(right;exact ⟨by assumption,by assumption⟩)|(right;exact ⟨by omega,by omega⟩))];simp [awrap,AVal.frz,frzL,Ty.v];done)|(rw [openT_4 (l:=l) (q:=q) (d:=d) aq oq aq];have h4:=(by assumption:(closedT l d.toNat q).kind=4);exact frz_list h4)|(rw [openT_5 aq oq h5,← hR,show 4 - i=0 by omega];(first|rw [if_pos aq]|rw [if_neg aq]);simp [opF,awrap,AVal.frz,frzL,Ty.v,hkl,h5];done)
end Go.Proofs.YtindpcpdkikdmaaGreatDoor
