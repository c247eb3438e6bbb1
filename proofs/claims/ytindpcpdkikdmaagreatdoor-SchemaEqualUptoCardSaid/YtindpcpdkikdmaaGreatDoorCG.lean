/- Closed of the reference. No condition. -/
import Derived.Test.YtindpcpdkikdmaaGreatDoorCF
set_option linter.all false
namespace Go.Proofs.YtindpcpdkikdmaaGreatDoor
open Go.Proofs.YtindpcpdkikdmaaGreatDoor.Abs
set_option maxRecDepth 20000
set_option maxHeartbeats 4000000
noncomputable def c60:Code:=bodyOf Tryz.f60
theorem names_spec  :CallsP cx 60 [] (.imm [.str [97],.str [98],.str [99],.str [105,100]]):=by
 refine func_intro (cx:=cx) 2 0 [(ResultVar.tmp 0)] Tryz.func60 rfl rfl rfl rfl rfl zq ?_
 show wpA cx 2 0 (at_ c60 []) _ _ _
 refine wSt [] [] [] kq kq ?_
 refine wSeq kq ?_
 refine wOrd kq (vstart ?_)
 refine vrun 1 kq ?_
 refine vend kq ?_
 refine AThen_normal ?_
 refine wSt [] [] [] kq kq ?_
 refine wSeq kq ?_
 refine wOrd kq (vstart ?_)
 refine vrun 2 kq ?_
 refine vend kq ?_
 refine AThen_normal ?_
 refine wSt [0] [(0,.full [.str [97],.str [98],.str [99],.str [105,100]])] [] kq kq ?_
 refine wRet kq ?_
 refine leafP (l:=[.full [.str [97],.str [98],.str [99],.str [105,100]]]) (.inr rfl) kq ?_
 exact ⟨rfl,rfl⟩
def nms:List (List UInt8):=[[97],[98],[99],[105,100]]
theorem names2_spec:CallsP cx 60 [] (.imm (nms.map .str)):=names_spec
theorem nms_len:nms.length=4:=rfl
def baseT (k:Int):Ty:=if k=3 then .mk 3 [67,111,108,111,114] 0 [] [] else if k=4 then .mk 3 [83,104,97,112,101] 0 [] [] else .mk k [] 0 [] []
def recF (kid:Nat→Ty):Nat→Nat→Int→Ty→Ty
 | 0,_,_,o=>o
 | f+1,i,w,o=>recF kid f (i+1) (w.tdiv 2) (if w.tmod 2=1 then putT o (nms.getD i []) (kid i) else o)
def rec0:Ty:=.mk 5 [] 0 [] []
def closedT (l:List Int):Nat→Nat→Ty
 | 0,q=>baseT ((pickI l q 8).tmod 5)
 | d+1,q=>if pickI l q 8<5 then baseT (pickI l q 8) else if pickI l q 8=5 then .mk 4 [] 0 [] [closedT l d (q+1)]
  else recF (fun i=>closedT l d (q+2+3 * i)) 4 0 (pickI l (q+1) 16) rec0
theorem szS_app (a b:List (List UInt8)):szS (a++b)=szS a+szS b:=by
 induction a with
 | nil=>simp [szS]
 | cons x a ih=>simp [szS,ih];omega
theorem szL_app (a b:List Ty):Ty.szL (a++b)=Ty.szL a+Ty.szL b:=by
 induction a with
 | nil=>simp [Ty.szL]
 | cons x a ih=>simp [Ty.szL,ih];omega
theorem putT_sz (t:Ty) (s:List UInt8) (x:Ty):(putT t s x).sz≤t.sz+s.length+1+x.sz+1:=by
 have e:=sz_eq t
 have h1:szS t.names=szS (t.names.take (putAt t.names s))+szS (t.names.drop (putAt t.names s)):=by rw [← szS_app,List.take_append_drop]
 have h2:Ty.szL t.kids=Ty.szL (t.kids.take (putAt t.names s))+Ty.szL (t.kids.drop (putAt t.names s)):=by rw [← szL_app,List.take_append_drop]
 simp only [putT,putN,putK,Ty.sz,szS_app,szL_app,szS,Ty.szL,List.length_nil]
 omega
theorem putT_nk (t:Ty) (s:List UInt8) (x:Ty) (h:t.names.length=t.kids.length):(putT t s x).names.length=(putT t s x).kids.length:=by
 show (putN t s).length=(putK t s x).length
 simp only [putN,putK,List.length_append,List.length_take,List.length_drop,h,List.length_cons,List.length_nil]
def bd:Nat→Nat
 | 0=>20
 | n+1=>4 * (bd n+10)+20
theorem nms_at (i:Nat):(nms.getD i []).length≤2:=by
 match i with
 | 0=>decide
 | 1=>decide
 | 2=>decide
 | 3=>decide
 | i+4=>simp [nms]
theorem recF_sz (kid:Nat→Ty) (b:Nat) (hk:∀ i,(kid i).sz≤b):∀ f i w o,(recF kid f i w o).sz≤o.sz+f * (b+4)
 | 0,i,w,o=>by simp [recF]
 | f+1,i,w,o=>by
  have:=recF_sz kid b hk f (i+1) (w.tdiv 2) (if w.tmod 2=1 then putT o (nms.getD i []) (kid i) else o)
  simp only [recF]
  refine Nat.le_trans this ?_
  have e:(f+1) * (b+4)=f * (b+4)+(b+4):=Nat.succ_mul _ _
  rw [e]
  split
  · have h1:=putT_sz o (nms.getD i []) (kid i)
    have h2:=hk i
    have h3:=nms_at i
    omega
  · omega
theorem baseT_sz (k:Int):(baseT k).sz≤20:=by
 unfold baseT;split
 · decide
 · split
   · decide
   · simp [Ty.sz,szS,Ty.szL]
theorem closedT_sz (l:List Int):∀ d q,(closedT l d q).sz≤bd d
 | 0,q=>baseT_sz _
 | d+1,q=>by
  have ih:=closedT_sz l d
  have hp:20≤bd (d+1):=by simp only [bd];omega
  unfold closedT
  split
  · exact Nat.le_trans (baseT_sz _) hp
  · split
    · simp only [Ty.sz,szS,Ty.szL,bd,List.length_nil];have:=ih (q+1);omega
    · have:=recF_sz (fun i=>closedT l d (q+2+3 * i)) (bd d) (fun i=>ih _) 4 0 (pickI l (q+1) 16) rec0
      have e:rec0.sz=1:=rfl
      simp only [bd];omega
theorem closedT_small (l:List Int) (d q:Nat) (h:d≤2):(closedT l d q).sz≤10000:=by
 refine Nat.le_trans (closedT_sz l d q) ?_
 match d,h with
 | 0,_=>decide
 | 1,_=>decide
 | 2,_=>decide
def clQ (t:Ty) (v:AVal) (h:AHeap):Prop:=(t.kind=5∧v=recV t∧h=recH t)∨(¬ t.kind=5∧v.frz h=t.v)
theorem recV_frz (t:Ty):(recV t).frz (recH t)=t.v:=by simp [recV,recH,AVal.frz,frzL,Ty.v]
theorem clQ_frz {t:Ty} {v:AVal} {h:AHeap} (hq:clQ t v h):v.frz h=t.v:=by
 rcases hq with ⟨_,rfl,rfl⟩|⟨_,h1⟩
 · exact recV_frz t
 · exact h1
theorem closed_P {l:List Int} {q:Nat} {d:Int} {t:Ty} (h:CallsA cx 58 [.imm (l.map (.int .i64)),.int .i64 (q:Nat),.int .i64 d] [] (clQ t)):CallsP cx 58 [.imm (l.map (.int .i64)),.int .i64 (q:Nat),.int .i64 d] t.v:=CallsP_post h (fun _ _=>clQ_frz) zq
theorem recF_step (kid:Nat→Ty) (i:Nat) (w:Int) (o:Ty) (h:i<4):recF kid (4 - i) i w o=recF kid (4 - (i+1)) (i+1) (w.tdiv 2) (if w.tmod 2=1 then putT o (nms.getD i []) (kid i) else o):=by
 rw [show 4 - i=(4 - (i+1))+1 by omega,recF]
theorem osz_step {a i:Nat} (h:a≤1+i * 20000):a≤1+(i+1) * 20000:=Nat.le_trans h (Nat.add_le_add_left (Nat.mul_le_mul_right _ (Nat.le_succ i)) 1)
theorem tdiv_bd {w:Int} (h:0≤w) (h1:w<16):0≤w.tdiv 2∧w.tdiv 2<16:=by
 rw [Int.tdiv_eq_ediv_of_nonneg h];omega
theorem recF_kind (kid:Nat→Ty):∀ f i w o,o.kind=5→(recF kid f i w o).kind=5
 | 0,i,w,o,h=>h
 | f+1,i,w,o,h=>by
  simp only [recF]
  refine recF_kind kid f _ _ _ ?_
  split
  · rfl
  · exact h
theorem toNat_s {d:Int} (h:0<d):d.toNat=(d - 1).toNat+1:=by omega
theorem closedT_0 {l:List Int} {q:Nat} {d:Int} (h:d=0):closedT l d.toNat q=baseT ((pickI l q 8).tmod 5):=by rw [h];rfl
theorem closedT_b {l:List Int} {q:Nat} {d:Int} (h:0<d) (h5:pickI l q 8<5):closedT l d.toNat q=baseT (pickI l q 8):=by rw [toNat_s h,closedT,if_pos h5]
theorem closedT_5 {l:List Int} {q:Nat} {d:Int} (h:0<d) (h5:pickI l q 8=5):closedT l d.toNat q=.mk 4 [] 0 [] [closedT l (d - 1).toNat (q+1)]:=by rw [toNat_s h,closedT,if_neg oq,if_pos h5]
theorem closedT_r {l:List Int} {q:Nat} {d:Int} (h:0<d) (h5:5<pickI l q 8):closedT l d.toNat q=recF (fun i=>closedT l (d - 1).toNat (q+2+3 * i)) 4 0 (pickI l (q+1) 16) rec0:=by rw [toNat_s h,closedT,if_neg oq,if_neg oq]
theorem clQ_base {t:Ty} {v:AVal} {h:AHeap} {k:Int} (e:t=baseT k) (hk:0≤k∧k<5) (hv:v.frz h=(baseT k).v):clQ t v h:=by
 subst e
 refine .inr ⟨?_,hv⟩
 unfold baseT;split
 · simp [Ty.kind]
 · split
   · simp [Ty.kind]
   · simp only [Ty.kind];omega
noncomputable def c58:Code:=bodyOf Tryz.f58
theorem closed_raw3 (l:List Int) (q:Nat) (d:Int) (hl:i64L l) (hq:(q:Int)+100 * d≤1000000) (hd:0≤d∧d≤3):CallsA cx 58 [.imm (l.map (AVal.int .i64)),.int .i64 ((q:Nat):Int),.int .i64 (d)] [] (clQ (closedT l d.toNat q)):=by
 induction hN:d.toNat using Nat.strongRecOn generalizing q d with|_ N ih =>
 rw [← hN]
 have ihP:∀ q':Nat,0<d→(q':Int)+100 * (d - 1)≤1000000→CallsP cx 58 [.imm (l.map (.int .i64)),.int .i64 (q':Nat),.int .i64 (d - 1)] (closedT l (d - 1).toNat q').v:=fun q' h1 h2=>closed_P (ih _ oq q' (d - 1) h2 oq rfl)
 have hnm:=nms_len
 have hpk:=pickI_bd l q 8 dq
 have htm:=tmod_bd hpk.1 (show (0:Int)<5 by decide)
 have hsm:=fun q=>closedT_small l (d - 1).toNat q oq
 refine func_raw (cx:=cx) 71 0 [(ResultVar.cell 6 54)] Tryz.func58 rfl rfl rfl rfl rfl zq ?_
 show wpA cx 71 0 (at_ c58 []) _ _ _
 refine wSt [0,1,2] [(0,.imm (l.map (AVal.int .i64))),(1,.int .i64 ((q:Nat):Int)),(2,.int .i64 (d))] [] kq kq ?_
 refine wSeq kq ?_
 refine wOrd kq (vstart ?_)
 refine vrun 1 kq ?_
 refine vend kq ?_
 refine AThen_normal ?_
 refine wSt [0,1,2,6] [(0,.imm (l.map (AVal.int .i64))),(1,.int .i64 ((q:Nat):Int)),(2,.int .i64 (d)),(6,.ptr 0 0)] [.box [.int .i64 0,.str [],.int .i64 0,.full [],.full []]] kq kq ?_
 refine wSeq kq ?_
 refine wOrd kq (vstart ?_)
 refine vrun 2 kq ?_
 refine vcallP (args:=[.imm (l.map (AVal.int .i64)),.int .i64 ((q:Nat):Int),.int .i64 8]) kq kq kq kq (pick_spec l q 8 (by first|omega|assumption|decide) (by first|omega|assumption|decide)) (by simp [Ty.v,Ex.v,Ct.v,Co.v,Rf.v,Sm.v,Tb.v,Sc.v]) (by simp [Ty.v,Ex.v,Ct.v,Co.v,Rf.v,Sm.v,Tb.v,Sc.v]) (by simp [Ty.v,Ex.v,Ct.v,Co.v,Rf.v,Sm.v,Tb.v,Sc.v]) ?_
 have hv1:=pickI_bd l q 8 dq
 refine vrun 1 kq ?_
 refine vend kq ?_
 refine AThen_normal ?_
 refine wSt [0,1,2,6,7] [(0,.imm (l.map (AVal.int .i64))),(1,.int .i64 ((q:Nat):Int)),(2,.int .i64 (d)),(6,.ptr 0 0),(7,.int .i64 (pickI l q 8))] [.box [.int .i64 0,.str [],.int .i64 0,.full [],.full []]] kq kq ?_
 refine wSeq kq ?_
 refine wSeq kq ?_
 refine wOrd kq (vstart ?_)
 refine vrun 2 kq ?_
 refine vend kq ?_
 refine AThen_normal ?_
 refine wSt [0,1,2,6,7,15] [(0,.imm (l.map (AVal.int .i64))),(1,.int .i64 ((q:Nat):Int)),(2,.int .i64 (d)),(6,.ptr 0 0),(7,.int .i64 (pickI l q 8)),(15,.bool ((d)==0))] [.box [.int .i64 0,.str [],.int .i64 0,.full [],.full []]] kq kq ?_
 by_cases hb2:(d)=0
 · refine wIfT kq (Eq.trans (b:=.bool ((d)==0)) kq (congrArg AVal.bool (beq_iff_eq.2 hb2))) ?_
   refine wOrd kq (vstart ?_)
   refine vrun 1 kq ?_
   refine vsym kq kq (o_rem (a:=(pickI l q 8)) (b:=5) kq dq) ?_
   refine vrun 1 kq ?_
   refine vend kq ?_
   refine AThen_normal ?_
   refine wSt [0,1,2,6,7] [(0,.imm (l.map (AVal.int .i64))),(1,.int .i64 ((q:Nat):Int)),(2,.int .i64 (d)),(6,.ptr 0 0),(7,.int .i64 ((pickI l q 8).tmod 5))] [.box [.int .i64 0,.str [],.int .i64 0,.full [],.full []]] kq kq ?_
   refine wSeq kq ?_
   refine wSeq kq ?_
   refine wOrd kq (vstart ?_)
   refine vrun 1 kq ?_
   refine vend kq ?_
   refine AThen_normal ?_
   refine wSt [0,1,2,6,7,18] [(0,.imm (l.map (AVal.int .i64))),(1,.int .i64 ((q:Nat):Int)),(2,.int .i64 (d)),(6,.ptr 0 0),(7,.int .i64 ((pickI l q 8).tmod 5)),(18,.int .i64 ((pickI l q 8).tmod 5))] [.box [.int .i64 0,.str [],.int .i64 0,.full [],.full []]] kq kq ?_
   refine wBlock 0 kq kq ?_
   refine wSeq kq ?_
   refine wSeq kq ?_
   refine wOrd kq (vstart ?_)
   refine vrun 2 kq ?_
   refine vend kq ?_
   refine AThen_normal ?_
   refine wSt [0,1,2,6,7,18,19] [(0,.imm (l.map (AVal.int .i64))),(1,.int .i64 ((q:Nat):Int)),(2,.int .i64 (d)),(6,.ptr 0 0),(7,.int .i64 ((pickI l q 8).tmod 5)),(18,.int .i64 ((pickI l q 8).tmod 5)),(19,.bool (((pickI l q 8).tmod 5)==0))] [.box [.int .i64 0,.str [],.int .i64 0,.full [],.full []]] kq kq ?_
   by_cases hb3:((pickI l q 8).tmod 5)=0
   · refine wIfT kq (Eq.trans (b:=.bool (((pickI l q 8).tmod 5)==0)) kq (congrArg AVal.bool (beq_iff_eq.2 hb3))) ?_
     refine wSkip kq ?_
     refine AThen_normal ?_
     refine wSt [0,1,2,6,7,18,19] [(0,.imm (l.map (AVal.int .i64))),(1,.int .i64 ((q:Nat):Int)),(2,.int .i64 (d)),(6,.ptr 0 0),(7,.int .i64 ((pickI l q 8).tmod 5)),(18,.int .i64 ((pickI l q 8).tmod 5)),(19,.bool (((pickI l q 8).tmod 5)==0))] [.box [.int .i64 0,.str [],.int .i64 0,.full [],.full []]] kq kq ?_
     refine wIfT kq (Eq.trans (b:=.bool (((pickI l q 8).tmod 5)==0)) kq (congrArg AVal.bool (beq_iff_eq.2 hb3))) ?_
     refine wSeq kq ?_
     refine wOrd kq (vstart ?_)
     refine vrun 3 kq ?_
     refine vend kq ?_
     refine AThen_normal ?_
     refine wSt [6] [(6,.ptr 0 0)] [.box [.int .i64 ((pickI l q 8).tmod 5),.str [],.int .i64 0,.full [],.full []]] kq kq ?_
     refine wRet kq ?_
     refine AIn_ret ?_
     refine AThen_ret ?_
     refine leafR (l:=[.agg [.int .i64 ((pickI l q 8).tmod 5),.str [],.int .i64 0,.full [],.full []]]) 0 [] (.inr rfl) kq (Nat.zero_le _) kq (by simp [awrap,-List.map_append,-List.map_take,-List.map_drop,-List.append_assoc]) (by simp [AObj.belO,-List.map_append,-List.map_take,-List.map_drop,-List.append_assoc]) ?_
     first|exact clQ_base (k:=(pickI l q 8).tmod 5) (closedT_0 oq) oq (by simp [awrap,AVal.frz,frzL,Ty.v,Ty.kind,Ty.name,Ty.n,Ty.names,Ty.kids,baseT, *];done)|exact clQ_base (k:=pickI l q 8) (closedT_b oq oq) oq (by simp [awrap,AVal.frz,frzL,Ty.v,Ty.kind,Ty.name,Ty.n,Ty.names,Ty.kids,baseT, *];done)
   · refine wIfF kq (Eq.trans (b:=.bool (((pickI l q 8).tmod 5)==0)) kq (congrArg AVal.bool (beq_eq_false_iff_ne.2 hb3))) ?_
     refine wSeq kq ?_
     refine wOrd kq (vstart ?_)
     refine vrun 2 kq ?_
     refine vend kq ?_
     refine AThen_normal ?_
     refine wSt [0,1,2,6,7,18,19] [(0,.imm (l.map (AVal.int .i64))),(1,.int .i64 ((q:Nat):Int)),(2,.int .i64 (d)),(6,.ptr 0 0),(7,.int .i64 ((pickI l q 8).tmod 5)),(18,.int .i64 ((pickI l q 8).tmod 5)),(19,.bool (((pickI l q 8).tmod 5)==1))] [.box [.int .i64 0,.str [],.int .i64 0,.full [],.full []]] kq kq ?_
     by_cases hb5:((pickI l q 8).tmod 5)=1
     · refine wIfT kq (Eq.trans (b:=.bool (((pickI l q 8).tmod 5)==1)) kq (congrArg AVal.bool (beq_iff_eq.2 hb5))) ?_
       refine wSkip kq ?_
       refine AThen_normal ?_
       refine wSt [0,1,2,6,7,18,19] [(0,.imm (l.map (AVal.int .i64))),(1,.int .i64 ((q:Nat):Int)),(2,.int .i64 (d)),(6,.ptr 0 0),(7,.int .i64 ((pickI l q 8).tmod 5)),(18,.int .i64 ((pickI l q 8).tmod 5)),(19,.bool (((pickI l q 8).tmod 5)==1))] [.box [.int .i64 0,.str [],.int .i64 0,.full [],.full []]] kq kq ?_
       refine wIfT kq (Eq.trans (b:=.bool (((pickI l q 8).tmod 5)==1)) kq (congrArg AVal.bool (beq_iff_eq.2 hb5))) ?_
       refine wSeq kq ?_
       refine wOrd kq (vstart ?_)
       refine vrun 3 kq ?_
       refine vend kq ?_
       refine AThen_normal ?_
       refine wSt [6] [(6,.ptr 0 0)] [.box [.int .i64 ((pickI l q 8).tmod 5),.str [],.int .i64 0,.full [],.full []]] kq kq ?_
       refine wRet kq ?_
       refine AIn_ret ?_
       refine AThen_ret ?_
       refine leafR (l:=[.agg [.int .i64 ((pickI l q 8).tmod 5),.str [],.int .i64 0,.full [],.full []]]) 0 [] (.inr rfl) kq (Nat.zero_le _) kq (by simp [awrap,-List.map_append,-List.map_take,-List.map_drop,-List.append_assoc]) (by simp [AObj.belO,-List.map_append,-List.map_take,-List.map_drop,-List.append_assoc]) ?_
       first|exact clQ_base (k:=(pickI l q 8).tmod 5) (closedT_0 oq) oq (by simp [awrap,AVal.frz,frzL,Ty.v,Ty.kind,Ty.name,Ty.n,Ty.names,Ty.kids,baseT, *];done)|exact clQ_base (k:=pickI l q 8) (closedT_b oq oq) oq (by simp [awrap,AVal.frz,frzL,Ty.v,Ty.kind,Ty.name,Ty.n,Ty.names,Ty.kids,baseT, *];done)
     · refine wIfF kq (Eq.trans (b:=.bool (((pickI l q 8).tmod 5)==1)) kq (congrArg AVal.bool (beq_eq_false_iff_ne.2 hb5))) ?_
       refine wOrd kq (vstart ?_)
       refine vrun 2 kq ?_
       refine vend kq ?_
       refine AThen_normal ?_
       refine wSt [0,1,2,6,7,18,19] [(0,.imm (l.map (AVal.int .i64))),(1,.int .i64 ((q:Nat):Int)),(2,.int .i64 (d)),(6,.ptr 0 0),(7,.int .i64 ((pickI l q 8).tmod 5)),(18,.int .i64 ((pickI l q 8).tmod 5)),(19,.bool (((pickI l q 8).tmod 5)==2))] [.box [.int .i64 0,.str [],.int .i64 0,.full [],.full []]] kq kq ?_
       by_cases hb7:((pickI l q 8).tmod 5)=2
       · refine wIfT kq (Eq.trans (b:=.bool (((pickI l q 8).tmod 5)==2)) kq (congrArg AVal.bool (beq_iff_eq.2 hb7))) ?_
         refine wSeq kq ?_
         refine wOrd kq (vstart ?_)
         refine vrun 3 kq ?_
         refine vend kq ?_
         refine AThen_normal ?_
         refine wSt [6] [(6,.ptr 0 0)] [.box [.int .i64 ((pickI l q 8).tmod 5),.str [],.int .i64 0,.full [],.full []]] kq kq ?_
         refine wRet kq ?_
         refine AIn_ret ?_
         refine AThen_ret ?_
         refine leafR (l:=[.agg [.int .i64 ((pickI l q 8).tmod 5),.str [],.int .i64 0,.full [],.full []]]) 0 [] (.inr rfl) kq (Nat.zero_le _) kq (by simp [awrap,-List.map_append,-List.map_take,-List.map_drop,-List.append_assoc]) (by simp [AObj.belO,-List.map_append,-List.map_take,-List.map_drop,-List.append_assoc]) ?_
         first|exact clQ_base (k:=(pickI l q 8).tmod 5) (closedT_0 oq) oq (by simp [awrap,AVal.frz,frzL,Ty.v,Ty.kind,Ty.name,Ty.n,Ty.names,Ty.kids,baseT, *];done)|exact clQ_base (k:=pickI l q 8) (closedT_b oq oq) oq (by simp [awrap,AVal.frz,frzL,Ty.v,Ty.kind,Ty.name,Ty.n,Ty.names,Ty.kids,baseT, *];done)
       · refine wIfF kq (Eq.trans (b:=.bool (((pickI l q 8).tmod 5)==2)) kq (congrArg AVal.bool (beq_eq_false_iff_ne.2 hb7))) ?_
         refine wSeq kq ?_
         refine wOrd kq (vstart ?_)
         refine vrun 2 kq ?_
         refine vend kq ?_
         refine AThen_normal ?_
         refine wSt [0,1,2,6,18,25] [(0,.imm (l.map (AVal.int .i64))),(1,.int .i64 ((q:Nat):Int)),(2,.int .i64 (d)),(6,.ptr 0 0),(18,.int .i64 ((pickI l q 8).tmod 5)),(25,.bool (((pickI l q 8).tmod 5)==3))] [.box [.int .i64 0,.str [],.int .i64 0,.full [],.full []]] kq kq ?_
         by_cases hb8:((pickI l q 8).tmod 5)=3
         · refine wIfT kq (Eq.trans (b:=.bool (((pickI l q 8).tmod 5)==3)) kq (congrArg AVal.bool (beq_iff_eq.2 hb8))) ?_
           refine wSeq kq ?_
           refine wOrd kq (vstart ?_)
           refine vrun 2 kq ?_
           refine vend kq ?_
           refine AThen_normal ?_
           refine wSt [6] [(6,.ptr 0 0)] [.box [.int .i64 3,.str [67,111,108,111,114],.int .i64 0,.full [],.full []]] kq kq ?_
           refine wRet kq ?_
           refine AIn_ret ?_
           refine AThen_ret ?_
           refine leafR (l:=[.agg [.int .i64 3,.str [67,111,108,111,114],.int .i64 0,.full [],.full []]]) 0 [] (.inr rfl) kq (Nat.zero_le _) kq (by simp [awrap,-List.map_append,-List.map_take,-List.map_drop,-List.append_assoc]) (by simp [AObj.belO,-List.map_append,-List.map_take,-List.map_drop,-List.append_assoc]) ?_
           first|exact clQ_base (k:=(pickI l q 8).tmod 5) (closedT_0 oq) oq (by simp [awrap,AVal.frz,frzL,Ty.v,Ty.kind,Ty.name,Ty.n,Ty.names,Ty.kids,baseT, *];done)|exact clQ_base (k:=pickI l q 8) (closedT_b oq oq) oq (by simp [awrap,AVal.frz,frzL,Ty.v,Ty.kind,Ty.name,Ty.n,Ty.names,Ty.kids,baseT, *];done)
         · refine wIfF kq (Eq.trans (b:=.bool (((pickI l q 8).tmod 5)==3)) kq (congrArg AVal.bool (beq_eq_false_iff_ne.2 hb8))) ?_
           refine wSeq kq ?_
           refine wOrd kq (vstart ?_)
           refine vrun 2 kq ?_
           refine vend kq ?_
           refine AThen_normal ?_
           refine wSt [0,1,2,6,18,28] [(0,.imm (l.map (AVal.int .i64))),(1,.int .i64 ((q:Nat):Int)),(2,.int .i64 (d)),(6,.ptr 0 0),(18,.int .i64 ((pickI l q 8).tmod 5)),(28,.bool (((pickI l q 8).tmod 5)==4))] [.box [.int .i64 0,.str [],.int .i64 0,.full [],.full []]] kq kq ?_
           by_cases hb9:((pickI l q 8).tmod 5)=4
           · refine wIfT kq (Eq.trans (b:=.bool (((pickI l q 8).tmod 5)==4)) kq (congrArg AVal.bool (beq_iff_eq.2 hb9))) ?_
             refine wSeq kq ?_
             refine wOrd kq (vstart ?_)
             refine vrun 2 kq ?_
             refine vend kq ?_
             refine AThen_normal ?_
             refine wSt [6] [(6,.ptr 0 0)] [.box [.int .i64 3,.str [83,104,97,112,101],.int .i64 0,.full [],.full []]] kq kq ?_
             refine wRet kq ?_
             refine AIn_ret ?_
             refine AThen_ret ?_
             refine leafR (l:=[.agg [.int .i64 3,.str [83,104,97,112,101],.int .i64 0,.full [],.full []]]) 0 [] (.inr rfl) kq (Nat.zero_le _) kq (by simp [awrap,-List.map_append,-List.map_take,-List.map_drop,-List.append_assoc]) (by simp [AObj.belO,-List.map_append,-List.map_take,-List.map_drop,-List.append_assoc]) ?_
             first|exact clQ_base (k:=(pickI l q 8).tmod 5) (closedT_0 oq) oq (by simp [awrap,AVal.frz,frzL,Ty.v,Ty.kind,Ty.name,Ty.n,Ty.names,Ty.kids,baseT, *];done)|exact clQ_base (k:=pickI l q 8) (closedT_b oq oq) oq (by simp [awrap,AVal.frz,frzL,Ty.v,Ty.kind,Ty.name,Ty.n,Ty.names,Ty.kids,baseT, *];done)
           · exfalso;omega
 · refine wIfF (by kernel_rfl) (Eq.trans (b:=.bool ((d)==0)) kq (congrArg AVal.bool (beq_eq_false_iff_ne.2 hb2))) ?_
   refine wSkip kq ?_
   refine AThen_normal ?_
   refine wSt [0,1,2,6,7] [(0,.imm (l.map (AVal.int .i64))),(1,.int .i64 ((q:Nat):Int)),(2,.int .i64 (d)),(6,.ptr 0 0),(7,.int .i64 (pickI l q 8))] [.box [.int .i64 0,.str [],.int .i64 0,.full [],.full []]] kq kq ?_
   refine wSeq kq ?_
   refine wSeq kq ?_
   refine wOrd kq (vstart ?_)
   refine vrun 1 kq ?_
   refine vend kq ?_
   refine AThen_normal ?_
   refine wSt [0,1,2,6,7,18] [(0,.imm (l.map (AVal.int .i64))),(1,.int .i64 ((q:Nat):Int)),(2,.int .i64 (d)),(6,.ptr 0 0),(7,.int .i64 (pickI l q 8)),(18,.int .i64 (pickI l q 8))] [.box [.int .i64 0,.str [],.int .i64 0,.full [],.full []]] kq kq ?_
   refine wBlock 0 kq kq ?_
   refine wSeq kq ?_
   refine wSeq kq ?_
   refine wOrd kq (vstart ?_)
   refine vrun 2 kq ?_
   refine vend kq ?_
   refine AThen_normal ?_
   refine wSt [0,1,2,6,7,18,19] [(0,.imm (l.map (AVal.int .i64))),(1,.int .i64 ((q:Nat):Int)),(2,.int .i64 (d)),(6,.ptr 0 0),(7,.int .i64 (pickI l q 8)),(18,.int .i64 (pickI l q 8)),(19,.bool ((pickI l q 8)==0))] [.box [.int .i64 0,.str [],.int .i64 0,.full [],.full []]] kq kq ?_
   by_cases hb10:(pickI l q 8)=0
   · refine wIfT kq (Eq.trans (b:=.bool ((pickI l q 8)==0)) kq (congrArg AVal.bool (beq_iff_eq.2 hb10))) ?_
     refine wSkip kq ?_
     refine AThen_normal ?_
     refine wSt [0,1,2,6,7,18,19] [(0,.imm (l.map (AVal.int .i64))),(1,.int .i64 ((q:Nat):Int)),(2,.int .i64 (d)),(6,.ptr 0 0),(7,.int .i64 (pickI l q 8)),(18,.int .i64 (pickI l q 8)),(19,.bool ((pickI l q 8)==0))] [.box [.int .i64 0,.str [],.int .i64 0,.full [],.full []]] kq kq ?_
     refine wIfT kq (Eq.trans (b:=.bool ((pickI l q 8)==0)) kq (congrArg AVal.bool (beq_iff_eq.2 hb10))) ?_
     refine wSeq kq ?_
     refine wOrd kq (vstart ?_)
     refine vrun 3 kq ?_
     refine vend kq ?_
     refine AThen_normal ?_
     refine wSt [6] [(6,.ptr 0 0)] [.box [.int .i64 (pickI l q 8),.str [],.int .i64 0,.full [],.full []]] kq kq ?_
     refine wRet kq ?_
     refine AIn_ret ?_
     refine AThen_ret ?_
     refine leafR (l:=[.agg [.int .i64 (pickI l q 8),.str [],.int .i64 0,.full [],.full []]]) 0 [] (.inr rfl) kq (Nat.zero_le _) kq (by simp [awrap,-List.map_append,-List.map_take,-List.map_drop,-List.append_assoc]) (by simp [AObj.belO,-List.map_append,-List.map_take,-List.map_drop,-List.append_assoc]) ?_
     first|exact clQ_base (k:=(pickI l q 8).tmod 5) (closedT_0 oq) oq (by simp [awrap,AVal.frz,frzL,Ty.v,Ty.kind,Ty.name,Ty.n,Ty.names,Ty.kids,baseT, *];done)|exact clQ_base (k:=pickI l q 8) (closedT_b oq oq) oq (by simp [awrap,AVal.frz,frzL,Ty.v,Ty.kind,Ty.name,Ty.n,Ty.names,Ty.kids,baseT, *];done)
   · refine wIfF (by kernel_rfl) (Eq.trans (b:=.bool ((pickI l q 8)==0)) kq (congrArg AVal.bool (beq_eq_false_iff_ne.2 hb10))) ?_
     refine wSeq kq ?_
     refine wOrd kq (vstart ?_)
     refine vrun 2 kq ?_
     refine vend kq ?_
     refine AThen_normal ?_
     refine wSt [0,1,2,6,7,18,19] [(0,.imm (l.map (AVal.int .i64))),(1,.int .i64 ((q:Nat):Int)),(2,.int .i64 (d)),(6,.ptr 0 0),(7,.int .i64 (pickI l q 8)),(18,.int .i64 (pickI l q 8)),(19,.bool ((pickI l q 8)==1))] [.box [.int .i64 0,.str [],.int .i64 0,.full [],.full []]] kq kq ?_
     by_cases hb12:(pickI l q 8)=1
     · refine wIfT kq (Eq.trans (b:=.bool ((pickI l q 8)==1)) kq (congrArg AVal.bool (beq_iff_eq.2 hb12))) ?_
       refine wSkip kq ?_
       refine AThen_normal ?_
       refine wSt [0,1,2,6,7,18,19] [(0,.imm (l.map (AVal.int .i64))),(1,.int .i64 ((q:Nat):Int)),(2,.int .i64 (d)),(6,.ptr 0 0),(7,.int .i64 (pickI l q 8)),(18,.int .i64 (pickI l q 8)),(19,.bool ((pickI l q 8)==1))] [.box [.int .i64 0,.str [],.int .i64 0,.full [],.full []]] kq kq ?_
       refine wIfT kq (Eq.trans (b:=.bool ((pickI l q 8)==1)) kq (congrArg AVal.bool (beq_iff_eq.2 hb12))) ?_
       refine wSeq kq ?_
       refine wOrd kq (vstart ?_)
       refine vrun 3 kq ?_
       refine vend kq ?_
       refine AThen_normal ?_
       refine wSt [6] [(6,.ptr 0 0)] [.box [.int .i64 (pickI l q 8),.str [],.int .i64 0,.full [],.full []]] kq kq ?_
       refine wRet kq ?_
       refine AIn_ret ?_
       refine AThen_ret ?_
       refine leafR (l:=[.agg [.int .i64 (pickI l q 8),.str [],.int .i64 0,.full [],.full []]]) 0 [] (.inr rfl) kq (Nat.zero_le _) kq (by simp [awrap,-List.map_append,-List.map_take,-List.map_drop,-List.append_assoc]) (by simp [AObj.belO,-List.map_append,-List.map_take,-List.map_drop,-List.append_assoc]) ?_
       first|exact clQ_base (k:=(pickI l q 8).tmod 5) (closedT_0 oq) oq (by simp [awrap,AVal.frz,frzL,Ty.v,Ty.kind,Ty.name,Ty.n,Ty.names,Ty.kids,baseT, *];done)|exact clQ_base (k:=pickI l q 8) (closedT_b oq oq) oq (by simp [awrap,AVal.frz,frzL,Ty.v,Ty.kind,Ty.name,Ty.n,Ty.names,Ty.kids,baseT, *];done)
     · refine wIfF kq (Eq.trans (b:=.bool ((pickI l q 8)==1)) kq (congrArg AVal.bool (beq_eq_false_iff_ne.2 hb12))) ?_
       refine wOrd kq (vstart ?_)
       refine vrun 2 kq ?_
       refine vend kq ?_
       refine AThen_normal ?_
       refine wSt [0,1,2,6,7,18,19] [(0,.imm (l.map (AVal.int .i64))),(1,.int .i64 ((q:Nat):Int)),(2,.int .i64 (d)),(6,.ptr 0 0),(7,.int .i64 (pickI l q 8)),(18,.int .i64 (pickI l q 8)),(19,.bool ((pickI l q 8)==2))] [.box [.int .i64 0,.str [],.int .i64 0,.full [],.full []]] kq kq ?_
       by_cases hb14:(pickI l q 8)=2
       · refine wIfT kq (Eq.trans (b:=.bool ((pickI l q 8)==2)) kq (congrArg AVal.bool (beq_iff_eq.2 hb14))) ?_
         refine wSeq kq ?_
         refine wOrd kq (vstart ?_)
         refine vrun 3 kq ?_
         refine vend kq ?_
         refine AThen_normal ?_
         refine wSt [6] [(6,.ptr 0 0)] [.box [.int .i64 (pickI l q 8),.str [],.int .i64 0,.full [],.full []]] kq kq ?_
         refine wRet kq ?_
         refine AIn_ret ?_
         refine AThen_ret ?_
         refine leafR (l:=[.agg [.int .i64 (pickI l q 8),.str [],.int .i64 0,.full [],.full []]]) 0 [] (.inr rfl) kq (Nat.zero_le _) kq (by simp [awrap,-List.map_append,-List.map_take,-List.map_drop,-List.append_assoc]) (by simp [AObj.belO,-List.map_append,-List.map_take,-List.map_drop,-List.append_assoc]) ?_
         first|exact clQ_base (k:=(pickI l q 8).tmod 5) (closedT_0 oq) oq (by simp [awrap,AVal.frz,frzL,Ty.v,Ty.kind,Ty.name,Ty.n,Ty.names,Ty.kids,baseT, *];done)|exact clQ_base (k:=pickI l q 8) (closedT_b oq oq) oq (by simp [awrap,AVal.frz,frzL,Ty.v,Ty.kind,Ty.name,Ty.n,Ty.names,Ty.kids,baseT, *];done)
       · refine wIfF kq (Eq.trans (b:=.bool ((pickI l q 8)==2)) kq (congrArg AVal.bool (beq_eq_false_iff_ne.2 hb14))) ?_
         refine wSeq kq ?_
         refine wOrd kq (vstart ?_)
         refine vrun 2 kq ?_
         refine vend kq ?_
         refine AThen_normal ?_
         refine wSt [0,1,2,6,18,25] [(0,.imm (l.map (AVal.int .i64))),(1,.int .i64 ((q:Nat):Int)),(2,.int .i64 (d)),(6,.ptr 0 0),(18,.int .i64 (pickI l q 8)),(25,.bool ((pickI l q 8)==3))] [.box [.int .i64 0,.str [],.int .i64 0,.full [],.full []]] kq kq ?_
         by_cases hb15:(pickI l q 8)=3
         · refine wIfT kq (Eq.trans (b:=.bool ((pickI l q 8)==3)) kq (congrArg AVal.bool (beq_iff_eq.2 hb15))) ?_
           refine wSeq kq ?_
           refine wOrd kq (vstart ?_)
           refine vrun 2 kq ?_
           refine vend kq ?_
           refine AThen_normal ?_
           refine wSt [6] [(6,.ptr 0 0)] [.box [.int .i64 3,.str [67,111,108,111,114],.int .i64 0,.full [],.full []]] kq kq ?_
           refine wRet kq ?_
           refine AIn_ret ?_
           refine AThen_ret ?_
           refine leafR (l:=[.agg [.int .i64 3,.str [67,111,108,111,114],.int .i64 0,.full [],.full []]]) 0 [] (.inr rfl) kq (Nat.zero_le _) kq (by simp [awrap,-List.map_append,-List.map_take,-List.map_drop,-List.append_assoc]) (by simp [AObj.belO,-List.map_append,-List.map_take,-List.map_drop,-List.append_assoc]) ?_
           first|exact clQ_base (k:=(pickI l q 8).tmod 5) (closedT_0 oq) oq (by simp [awrap,AVal.frz,frzL,Ty.v,Ty.kind,Ty.name,Ty.n,Ty.names,Ty.kids,baseT, *];done)|exact clQ_base (k:=pickI l q 8) (closedT_b oq oq) oq (by simp [awrap,AVal.frz,frzL,Ty.v,Ty.kind,Ty.name,Ty.n,Ty.names,Ty.kids,baseT, *];done)
         · refine wIfF kq (Eq.trans (b:=.bool ((pickI l q 8)==3)) kq (congrArg AVal.bool (beq_eq_false_iff_ne.2 hb15))) ?_
           refine wSeq kq ?_
           refine wOrd kq (vstart ?_)
           refine vrun 2 kq ?_
           refine vend kq ?_
           refine AThen_normal ?_
           refine wSt [0,1,2,6,18,28] [(0,.imm (l.map (AVal.int .i64))),(1,.int .i64 ((q:Nat):Int)),(2,.int .i64 (d)),(6,.ptr 0 0),(18,.int .i64 (pickI l q 8)),(28,.bool ((pickI l q 8)==4))] [.box [.int .i64 0,.str [],.int .i64 0,.full [],.full []]] kq kq ?_
           by_cases hb16:(pickI l q 8)=4
           · refine wIfT kq (Eq.trans (b:=.bool ((pickI l q 8)==4)) kq (congrArg AVal.bool (beq_iff_eq.2 hb16))) ?_
             refine wSeq kq ?_
             refine wOrd kq (vstart ?_)
             refine vrun 2 kq ?_
             refine vend kq ?_
             refine AThen_normal ?_
             refine wSt [6] [(6,.ptr 0 0)] [.box [.int .i64 3,.str [83,104,97,112,101],.int .i64 0,.full [],.full []]] kq kq ?_
             refine wRet kq ?_
             refine AIn_ret ?_
             refine AThen_ret ?_
             refine leafR (l:=[.agg [.int .i64 3,.str [83,104,97,112,101],.int .i64 0,.full [],.full []]]) 0 [] (.inr rfl) kq (Nat.zero_le _) kq (by simp [awrap,-List.map_append,-List.map_take,-List.map_drop,-List.append_assoc]) (by simp [AObj.belO,-List.map_append,-List.map_take,-List.map_drop,-List.append_assoc]) ?_
             first|exact clQ_base (k:=(pickI l q 8).tmod 5) (closedT_0 oq) oq (by simp [awrap,AVal.frz,frzL,Ty.v,Ty.kind,Ty.name,Ty.n,Ty.names,Ty.kids,baseT, *];done)|exact clQ_base (k:=pickI l q 8) (closedT_b oq oq) oq (by simp [awrap,AVal.frz,frzL,Ty.v,Ty.kind,Ty.name,Ty.n,Ty.names,Ty.kids,baseT, *];done)
           · refine wIfF kq (Eq.trans (b:=.bool ((pickI l q 8)==4)) kq (congrArg AVal.bool (beq_eq_false_iff_ne.2 hb16))) ?_
             refine wSeq kq ?_
             refine wOrd kq (vstart ?_)
             refine vrun 2 kq ?_
             refine vend kq ?_
             refine AThen_normal ?_
             refine wSt [0,1,2,6,31] [(0,.imm (l.map (AVal.int .i64))),(1,.int .i64 ((q:Nat):Int)),(2,.int .i64 (d)),(6,.ptr 0 0),(31,.bool ((pickI l q 8)==5))] [.box [.int .i64 0,.str [],.int .i64 0,.full [],.full []]] kq kq ?_
             by_cases hb17:(pickI l q 8)=5
             · refine wIfT kq (Eq.trans (b:=.bool ((pickI l q 8)==5)) kq (congrArg AVal.bool (beq_iff_eq.2 hb17))) ?_
               refine wSeq kq ?_
               refine wOrd kq (vstart ?_)
               refine vrun 2 kq ?_
               refine vsym kq kq (o_add (a:=((q:Nat):Int)) (b:=1) kq (by first|omega|assumption|decide) (by first|omega|assumption|decide)) ?_
               refine vrun 1 kq ?_
               refine vsym kq kq (o_sub (a:=(d)) (b:=1) kq (by first|omega|assumption|decide) (by first|omega|assumption|decide)) ?_
               refine vcallP (args:=[.imm (l.map (AVal.int .i64)),.int .i64 (((q+1):Nat):Int),.int .i64 ((d) - 1)]) kq kq kq kq (ihP (q+1) (by first|omega|assumption|decide) (by first|omega|assumption|decide)) (by simp [Ty.v,Ex.v,Ct.v,Co.v,Rf.v,Sm.v,Tb.v,Sc.v]) (by simp [Ty.v,Ex.v,Ct.v,Co.v,Rf.v,Sm.v,Tb.v,Sc.v]) (by simp [Ty.v,Ex.v,Ct.v,Co.v,Rf.v,Sm.v,Tb.v,Sc.v]) ?_
               refine vrun 3 kq ?_
               refine vend kq ?_
               refine AThen_normal ?_
               refine wSt [6] [(6,.ptr 0 0)] [.box [.int .i64 4,.str [],.int .i64 0,.full [],.full [Ty.v (closedT l (d - 1).toNat (q+1))]]] kq kq ?_
               refine wRet kq ?_
               refine AIn_ret ?_
               refine AThen_ret ?_
               refine leafR (l:=[.agg [.int .i64 4,.str [],.int .i64 0,.full [],.full [Ty.v (closedT l (d - 1).toNat (q+1))]]]) 0 [] (.inr rfl) kq (Nat.zero_le _) kq (by simp [awrap,-List.map_append,-List.map_take,-List.map_drop,-List.append_assoc]) (by simp [AObj.belO,-List.map_append,-List.map_take,-List.map_drop,-List.append_assoc]) ?_
               rw [closedT_5 oq aq]
               exact .inr ⟨by simp [Ty.kind],by simp [awrap,AVal.frz,frzL,Ty.v,Ty.kind,Ty.name,Ty.n,Ty.names,Ty.kids,Ty.enc_v]⟩
             · refine wIfF kq (Eq.trans (b:=.bool ((pickI l q 8)==5)) kq (congrArg AVal.bool (beq_eq_false_iff_ne.2 hb17))) ?_
               refine wSkip kq ?_
               refine AIn_normal ?_
               refine AThen_normal ?_
               refine wSt [0,1,2,6] [(0,.imm (l.map (AVal.int .i64))),(1,.int .i64 ((q:Nat):Int)),(2,.int .i64 (d)),(6,.ptr 0 0)] [.box [.int .i64 0,.str [],.int .i64 0,.full [],.full []]] kq kq ?_
               refine wSeq kq ?_
               refine wOrd kq (vstart ?_)
               refine vrun 3 kq ?_
               refine vend kq ?_
               refine AThen_normal ?_
               refine wSt [0,1,2,6,8] [(0,.imm (l.map (AVal.int .i64))),(1,.int .i64 ((q:Nat):Int)),(2,.int .i64 (d)),(6,.ptr 0 0),(8,.ptr 1 0)] [.box [.int .i64 0,.str [],.int .i64 0,.full [],.full []],.box [.int .i64 5,.str [],.int .i64 0,.full [],.full []]] kq kq ?_
               refine wSeq kq ?_
               refine wOrd kq (vstart ?_)
               refine vrun 2 kq ?_
               refine vsym kq kq (o_add (a:=((q:Nat):Int)) (b:=1) kq (by first|omega|assumption|decide) (by first|omega|assumption|decide)) ?_
               refine vcallP (args:=[.imm (l.map (AVal.int .i64)),.int .i64 (((q+1):Nat):Int),.int .i64 16]) kq kq kq kq (pick_spec l (q+1) 16 (by first|omega|assumption|decide) (by first|omega|assumption|decide)) (by simp [Ty.v,Ex.v,Ct.v,Co.v,Rf.v,Sm.v,Tb.v,Sc.v]) (by simp [Ty.v,Ex.v,Ct.v,Co.v,Rf.v,Sm.v,Tb.v,Sc.v]) (by simp [Ty.v,Ex.v,Ct.v,Co.v,Rf.v,Sm.v,Tb.v,Sc.v]) ?_
               have hv18:=pickI_bd l (q+1) 16 dq
               refine vrun 1 kq ?_
               refine vend kq ?_
               refine AThen_normal ?_
               refine wSt [0,1,2,6,8,9] [(0,.imm (l.map (AVal.int .i64))),(1,.int .i64 ((q:Nat):Int)),(2,.int .i64 (d)),(6,.ptr 0 0),(8,.ptr 1 0),(9,.int .i64 (pickI l (q+1) 16))] [.box [.int .i64 0,.str [],.int .i64 0,.full [],.full []],.box [.int .i64 5,.str [],.int .i64 0,.full [],.full []]] kq kq ?_
               refine wSeq kq ?_
               refine wSeq kq ?_
               refine wOrd kq (vstart ?_)
               refine vrun 1 kq ?_
               refine vend kq ?_
               refine AThen_normal ?_
               refine wSt [0,1,2,6,8,9,10] [(0,.imm (l.map (AVal.int .i64))),(1,.int .i64 ((q:Nat):Int)),(2,.int .i64 (d)),(6,.ptr 0 0),(8,.ptr 1 0),(9,.int .i64 (pickI l (q+1) 16)),(10,.int .i64 0)] [.box [.int .i64 0,.str [],.int .i64 0,.full [],.full []],.box [.int .i64 5,.str [],.int .i64 0,.full [],.full []]] kq kq ?_
               refine wImmB 1 3 (cs:=[.int .i64 5,.str [],.int .i64 0,.full [],.full []]) (y:=.full []) [.int .i64 5,.str [],.int .i64 0,.imm [],.full []] kq kq zq (by simp [List.set,AVal.frz,frzL]) ?_
               refine wOwnB 1 4 5 (cs:=[.int .i64 5,.str [],.int .i64 0,.imm [],.full []]) [.int .i64 5,.str [],.int .i64 0,.imm [],.own 2 0 0] dq kq kq kq ?_
               refine wSt [0,1,2,6,8,9,10] [(0,.imm (l.map (AVal.int .i64))),(1,.int .i64 ((q:Nat):Int)),(2,.int .i64 (d)),(6,.ptr 0 0),(8,.ptr 1 0),(9,.int .i64 (pickI l (q+1) 16)),(10,.int .i64 0)] [.box [.int .i64 0,.str [],.int .i64 0,.full [],.full []],.box [.int .i64 5,.str [],.int .i64 0,.imm [],.own 2 0 0],.arr 5 (([]:List (Ty)).map Ty.enc) 0] kq kq ?_
               refine wBlock 1 kq kq ?_
               refine wLoop (σ:=(Nat×Int×Ty)) (fun ⟨i,w,o⟩=>[(0,.imm (l.map (AVal.int .i64))),(1,.int .i64 ((q:Nat):Int)),(2,.int .i64 (d)),(6,.ptr 0 0),(8,.ptr 1 0),(9,.int .i64 (w)),(10,.int .i64 ((i:Nat):Int))]) (fun ⟨i,w,o⟩=>[.box [.int .i64 0,.str [],.int .i64 0,.full [],.full []],.box [.int .i64 (o.kind),.str o.name,.int .i64 (o.n),.imm (o.names.map AVal.str),.own 2 0 o.kids.length],.arr 5 (o.kids.map Ty.enc) 0]) (fun ⟨i,w,o⟩=>(i≤4∧0≤w∧w<16)∧(o.kind=5∧o.names.length=o.kids.length∧o.sz≤1+i * 20000)∧recF (fun i=>closedT l (d - 1).toNat (q+2+3 * i)) (4 - i) i w o=closedT l d.toNat q) (fun ⟨i,w,o⟩=>4 - i) (0,pickI l (q+1) 16,rec0) kq (by have:=pickI_bd l (q+1) 16 dq;exact ⟨⟨by omega,this.1,this.2⟩,⟨rfl,rfl,by decide⟩,(closedT_r oq oq).symm⟩) ⟨⟨kq,kq,kq,kq,kq,kq,kq,trivial⟩,by simp [BelL,AVal.bel],by simp,kq,by simp [AObj.belO]⟩ ?_
               rintro ⟨i,w,o⟩ ⟨⟨hi,hw0,hw1⟩,⟨ho5,hnk,hosz⟩,hR⟩
               have hwd:=tdiv_bd hw0 hw1
               refine wSt [0,1,2,6,8,9,10] [(0,.imm (l.map (AVal.int .i64))),(1,.int .i64 ((q:Nat):Int)),(2,.int .i64 (d)),(6,.ptr 0 0),(8,.ptr 1 0),(9,.int .i64 (w)),(10,.int .i64 ((i:Nat):Int))] [.box [.int .i64 0,.str [],.int .i64 0,.full [],.full []],.box [.int .i64 (o.kind),.str o.name,.int .i64 (o.n),.imm (o.names.map AVal.str),.own 2 0 o.kids.length],.arr 5 (o.kids.map Ty.enc) 0] kq kq ?_
               refine wSeq kq ?_
               refine wSeq kq ?_
               refine wOrd kq (vstart ?_)
               refine vrun 2 kq ?_
               refine vend kq ?_
               refine AThen_normal ?_
               refine wSt [0,1,2,6,8,9,10,47] [(0,.imm (l.map (AVal.int .i64))),(1,.int .i64 ((q:Nat):Int)),(2,.int .i64 (d)),(6,.ptr 0 0),(8,.ptr 1 0),(9,.int .i64 (w)),(10,.int .i64 ((i:Nat):Int)),(47,.bool (decide (((i:Nat):Int)<4)))] [.box [.int .i64 0,.str [],.int .i64 0,.full [],.full []],.box [.int .i64 (o.kind),.str o.name,.int .i64 (o.n),.imm (o.names.map AVal.str),.own 2 0 o.kids.length],.arr 5 (o.kids.map Ty.enc) 0] kq kq ?_
               by_cases hb19:((i:Nat):Int)<4
               · refine wIfT kq (Eq.trans (b:=.bool (decide (((i:Nat):Int)<4))) kq (congrArg AVal.bool (decide_eq_true hb19))) ?_
                 refine wSkip kq ?_
                 refine AThen_normal ?_
                 refine wSt [0,1,2,6,8,9,10] [(0,.imm (l.map (AVal.int .i64))),(1,.int .i64 ((q:Nat):Int)),(2,.int .i64 (d)),(6,.ptr 0 0),(8,.ptr 1 0),(9,.int .i64 (w)),(10,.int .i64 ((i:Nat):Int))] [.box [.int .i64 0,.str [],.int .i64 0,.full [],.full []],.box [.int .i64 (o.kind),.str o.name,.int .i64 (o.n),.imm (o.names.map AVal.str),.own 2 0 o.kids.length],.arr 5 (o.kids.map Ty.enc) 0] kq kq ?_
                 refine wSeq kq ?_
                 refine wBlock 2 kq kq ?_
                 refine wSeq kq ?_
                 refine wSeq kq ?_
                 refine wOrd kq (vstart ?_)
                 refine vrun 1 kq ?_
                 refine vsym kq kq (o_rem (a:=(w)) (b:=2) kq dq) ?_
                 refine vrun 1 kq ?_
                 refine vend kq ?_
                 refine AThen_normal ?_
                 refine wSt [0,1,2,6,8,9,10,52] [(0,.imm (l.map (AVal.int .i64))),(1,.int .i64 ((q:Nat):Int)),(2,.int .i64 (d)),(6,.ptr 0 0),(8,.ptr 1 0),(9,.int .i64 (w)),(10,.int .i64 ((i:Nat):Int)),(52,.bool (((w).tmod 2)==1))] [.box [.int .i64 0,.str [],.int .i64 0,.full [],.full []],.box [.int .i64 (o.kind),.str o.name,.int .i64 (o.n),.imm (o.names.map AVal.str),.own 2 0 o.kids.length],.arr 5 (o.kids.map Ty.enc) 0] kq kq ?_
                 by_cases hb20:((w).tmod 2)=1
                 · refine wIfT kq (Eq.trans (b:=.bool (((w).tmod 2)==1)) kq (congrArg AVal.bool (beq_iff_eq.2 hb20))) ?_
                   refine wDrw cxM kq extThen (dstart ?_)
                   refine drun 1 kq ?_
                   refine dcallP (args:=[]) kq kq kq kq kq (names2_spec) (fun _=>kq) kq kq ?_
                   refine drun 1 kq ?_
                   refine dsym kq kq kq (o_ixmap (k:=.i64) (l:=nms) (enc:=AVal.str) (i:=((i:Nat):Int)) [] kq ty34 ty9 (fun _=>rfl) (by first|omega|assumption|decide) (by first|omega|assumption|decide)) ?_
                   refine drun 3 kq ?_
                   refine dsym kq kq kq (o_add (a:=((q:Nat):Int)) (b:=2) kq (by first|omega|assumption|decide) (by first|omega|assumption|decide)) ?_
                   refine drun 1 kq ?_
                   refine dsym kq kq kq (o_mul (a:=3) (b:=((i:Nat):Int)) kq (by first|omega|assumption|decide) (by first|omega|assumption|decide)) ?_
                   refine dsym kq kq kq (o_add (a:=(((q+2):Nat):Int)) (b:=(((3 * i):Nat):Int)) kq (by first|omega|assumption|decide) (by first|omega|assumption|decide)) ?_
                   refine drun 1 kq ?_
                   refine dsym kq kq kq (o_sub (a:=(d)) (b:=1) kq (by first|omega|assumption|decide) (by first|omega|assumption|decide)) ?_
                   refine dcallP (args:=[.imm (l.map (AVal.int .i64)),.int .i64 ((((q+2)+(3 * i)):Nat):Int),.int .i64 ((d) - 1)]) kq kq kq kq kq (ihP ((q+2)+(3 * i)) (by first|omega|assumption|decide) (by first|omega|assumption|decide)) (by intro _;simp [Ty.v,Ex.v,Ct.v,Co.v,Rf.v,Sm.v,Tb.v,Sc.v]) (by simp [Ty.v,Ex.v,Ct.v,Co.v,Rf.v,Sm.v,Tb.v,Sc.v]) (by simp [Ty.v,Ex.v,Ct.v,Co.v,Rf.v,Sm.v,Tb.v,Sc.v]) ?_
                   refine dgrow1 (args:=[.agg [.int .i64 (o.kind),.str o.name,.int .i64 (o.n),.imm (o.names.map AVal.str),.own 2 0 o.kids.length],.str (nms.getD i []),Ty.v (closedT l (d - 1).toNat ((q+2)+(3 * i)))]) (args':=[Ty.v o,.str (nms.getD i []),Ty.v (closedT l (d - 1).toNat ((q+2)+(3 * i)))]) (V':=.agg [.int .i64 5,.str [],.int .i64 (o.n),.imm ((putN o (nms.getD i [])).map AVal.str),.own 3 0 (putK o (nms.getD i []) (closedT l (d - 1).toNat ((q+2)+(3 * i)))).length]) (F:=[.box [.int .i64 0,.str [],.int .i64 0,.full [],.full []],.box [.int .i64 (o.kind),.str o.name,.int .i64 (o.n),.imm (o.names.map AVal.str),.own 2 0 o.kids.length],.arr 5 (o.kids.map Ty.enc) (o.kids.map Ty.enc).length]) (G':=[.arr 5 ((putK o (nms.getD i []) (closedT l (d - 1).toNat ((q+2)+(3 * i)))).map Ty.enc) 0]) (L:=[2,3]) kq kq kq kq kq (put_raw o (closedT l (d - 1).toNat ((q+2)+(3 * i))) (nms.getD i []) oq (by first|omega|(have:=hsm (q+2+3 * i);omega)) aq) [.box [.int .i64 0,.str [],.int .i64 0,.full [],.full []],.box [.int .i64 (o.kind),.str o.name,.int .i64 (o.n),.imm (o.names.map AVal.str),.own 2 0 o.kids.length],.arr 5 (o.kids.map Ty.enc) 0] kq (by simp [AVal.frz,frzL,AVal.ren,renL,renH,AObj.ren,lendR,frzH,ownsL,AVal.owns,recV_put,recH_put,Ty.v]) (by simp [AVal.frz,frzL,AVal.ren,renL,renH,AObj.ren,lendR,frzH,ownsL,AVal.owns,recV_put,recH_put,Ty.v]) (by simp [recH_put]) (by simp [AVal.frz,frzL,AVal.ren,renL,renH,AObj.ren,lendR,frzH,ownsL,AVal.owns,recV_put,recH_put,Ty.v]) (by simp [AVal.frz,frzL,AVal.ren,renL,renH,AObj.ren,lendR,frzH,ownsL,AVal.owns,recV_put,recH_put,Ty.v]) (by simp [AVal.frz,frzL,AVal.ren,renL,renH,AObj.ren,lendR,frzH,ownsL,AVal.owns,recV_put,recH_put,Ty.v]) (by first|(simp [growL,ownsL,AVal.owns,recV_put,recH_put,Ty.v];done)|(simp [growL,ownsL,AVal.owns,recV_put,recH_put,Ty.v];decide)) ?_
                   refine drun 1 kq ?_
                   refine dend kq ⟨kq,?_⟩
                   refine AThen_normal ?_
                   refine wSt [0,1,2,6,8,9,10] [(0,.imm (l.map (AVal.int .i64))),(1,.int .i64 ((q:Nat):Int)),(2,.int .i64 (d)),(6,.ptr 0 0),(8,.ptr 1 0),(9,.int .i64 (w)),(10,.int .i64 ((i:Nat):Int))] [.box [.int .i64 0,.str [],.int .i64 0,.full [],.full []],.box [.int .i64 5,.str [],.int .i64 (o.n),.imm ((putN o (nms.getD i [])).map AVal.str),.own 3 0 (putK o (nms.getD i []) (closedT l (d - 1).toNat ((q+2)+(3 * i)))).length],.arr 5 (o.kids.map Ty.enc) (o.kids.map Ty.enc).length,.arr 5 ((putK o (nms.getD i []) (closedT l (d - 1).toNat ((q+2)+(3 * i)))).map Ty.enc) 0] kq kq ?_
                   refine wRen [0,1,3] [(0,.imm (l.map (AVal.int .i64))),(1,.int .i64 ((q:Nat):Int)),(2,.int .i64 (d)),(6,.ptr 0 0),(8,.ptr 1 0),(9,.int .i64 (w)),(10,.int .i64 ((i:Nat):Int))] [.box [.int .i64 0,.str [],.int .i64 0,.full [],.full []],.box [.int .i64 5,.str [],.int .i64 (o.n),.imm ((putN o (nms.getD i [])).map AVal.str),.own 2 0 (putK o (nms.getD i []) (closedT l (d - 1).toNat ((q+2)+(3 * i)))).length],.arr 5 ((putK o (nms.getD i []) (closedT l (d - 1).toNat ((q+2)+(3 * i)))).map Ty.enc) 0] dq (by simp [-List.map_append,-List.map_take,-List.map_drop,-List.append_assoc,AVal.refs,refsL,AObj.refs,AObj.isIter,objOk,Abs.renT,keepH,renO,AObj.ren,AVal.ren,renL,List.idxOf_cons]) (by simp [-List.map_append,-List.map_take,-List.map_drop,-List.append_assoc,AVal.refs,refsL,AObj.refs,AObj.isIter,objOk,Abs.renT,keepH,renO,AObj.ren,AVal.ren,renL,List.idxOf_cons]) (by simp [-List.map_append,-List.map_take,-List.map_drop,-List.append_assoc,AVal.refs,refsL,AObj.refs,AObj.isIter,objOk,Abs.renT,keepH,renO,AObj.ren,AVal.ren,renL,List.idxOf_cons]) (by simp [-List.map_append,-List.map_take,-List.map_drop,-List.append_assoc,AVal.refs,refsL,AObj.refs,AObj.isIter,objOk,Abs.renT,keepH,renO,AObj.ren,AVal.ren,renL,List.idxOf_cons]) ?_
                   refine wSt [0,1,2,6,8,9,10] [(0,.imm (l.map (AVal.int .i64))),(1,.int .i64 ((q:Nat):Int)),(2,.int .i64 (d)),(6,.ptr 0 0),(8,.ptr 1 0),(9,.int .i64 (w)),(10,.int .i64 ((i:Nat):Int))] [.box [.int .i64 0,.str [],.int .i64 0,.full [],.full []],.box [.int .i64 5,.str [],.int .i64 (o.n),.imm ((putN o (nms.getD i [])).map AVal.str),.own 2 0 (putK o (nms.getD i []) (closedT l (d - 1).toNat ((q+2)+(3 * i)))).length],.arr 5 ((putK o (nms.getD i []) (closedT l (d - 1).toNat ((q+2)+(3 * i)))).map Ty.enc) 0] kq kq ?_
                   refine wOrd kq (vstart ?_)
                   refine vrun 1 kq ?_
                   refine vsym kq kq (o_quo (a:=(w)) (b:=2) kq dq (by first|omega|assumption|decide) (by first|omega|assumption|decide)) ?_
                   refine vrun 1 kq ?_
                   refine vend kq ?_
                   refine AIn_normal ?_
                   refine AThen_normal ?_
                   refine wSt [0,1,2,6,8,9,10] [(0,.imm (l.map (AVal.int .i64))),(1,.int .i64 ((q:Nat):Int)),(2,.int .i64 (d)),(6,.ptr 0 0),(8,.ptr 1 0),(9,.int .i64 ((w).tdiv 2)),(10,.int .i64 ((i:Nat):Int))] [.box [.int .i64 0,.str [],.int .i64 0,.full [],.full []],.box [.int .i64 5,.str [],.int .i64 (o.n),.imm ((putN o (nms.getD i [])).map AVal.str),.own 2 0 (putK o (nms.getD i []) (closedT l (d - 1).toNat ((q+2)+(3 * i)))).length],.arr 5 ((putK o (nms.getD i []) (closedT l (d - 1).toNat ((q+2)+(3 * i)))).map Ty.enc) 0] kq kq ?_
                   refine wOrd kq (vstart ?_)
                   refine vrun 1 kq ?_
                   refine vsym kq kq (o_add (a:=((i:Nat):Int)) (b:=1) kq (by first|omega|assumption|decide) (by first|omega|assumption|decide)) ?_
                   refine vrun 1 kq ?_
                   refine vend kq ?_
                   refine AThen_normal ⟨(i+1,w.tdiv 2,(putT o (nms.getD i []) (closedT l (d - 1).toNat (q+2+3 * i)))),?_,?_,⟨⟨kq,kq,kq,kq,kq,kq,kq,trivial⟩,by simp [BelL,AVal.bel],by simp,kq,by simp [AObj.belO]⟩⟩
                   · try dsimp only
                     omega
                   · try dsimp only
                     first|(refine ⟨⟨by omega,hwd.1,hwd.2⟩,⟨ho5,hnk,?_⟩,?_⟩;(exact osz_step hosz);rw [← hR,recF_step _ i w o oq,if_neg aq];done)|(refine ⟨⟨by omega,hwd.1,hwd.2⟩,⟨rfl,putT_nk _ _ _ hnk,?_⟩,?_⟩;(have h1:=putT_sz o (nms.getD i []) (closedT l (d - 1).toNat (q+2+3 * i));have h2:=hsm (q+2+3 * i);have h3:=nms_at i;omega);(rw [← hR,recF_step _ i w o oq,if_pos aq]);done)
                 · refine wIfF kq (Eq.trans (b:=.bool (((w).tmod 2)==1)) kq (congrArg AVal.bool (beq_eq_false_iff_ne.2 hb20))) ?_
                   refine wSkip kq ?_
                   refine AThen_normal ?_
                   refine wSt [0,1,2,6,8,9,10] [(0,.imm (l.map (AVal.int .i64))),(1,.int .i64 ((q:Nat):Int)),(2,.int .i64 (d)),(6,.ptr 0 0),(8,.ptr 1 0),(9,.int .i64 (w)),(10,.int .i64 ((i:Nat):Int))] [.box [.int .i64 0,.str [],.int .i64 0,.full [],.full []],.box [.int .i64 (o.kind),.str o.name,.int .i64 (o.n),.imm (o.names.map AVal.str),.own 2 0 o.kids.length],.arr 5 (o.kids.map Ty.enc) 0] kq kq ?_
                   refine wOrd kq (vstart ?_)
                   refine vrun 1 kq ?_
                   refine vsym kq kq (o_quo (a:=(w)) (b:=2) kq dq (by first|omega|assumption|decide) (by first|omega|assumption|decide)) ?_
                   refine vrun 1 kq ?_
                   refine vend kq ?_
                   refine AIn_normal ?_
                   refine AThen_normal ?_
                   refine wSt [0,1,2,6,8,9,10] [(0,.imm (l.map (AVal.int .i64))),(1,.int .i64 ((q:Nat):Int)),(2,.int .i64 (d)),(6,.ptr 0 0),(8,.ptr 1 0),(9,.int .i64 ((w).tdiv 2)),(10,.int .i64 ((i:Nat):Int))] [.box [.int .i64 0,.str [],.int .i64 0,.full [],.full []],.box [.int .i64 (o.kind),.str o.name,.int .i64 (o.n),.imm (o.names.map AVal.str),.own 2 0 o.kids.length],.arr 5 (o.kids.map Ty.enc) 0] kq kq ?_
                   refine wOrd kq (vstart ?_)
                   refine vrun 1 kq ?_
                   refine vsym kq kq (o_add (a:=((i:Nat):Int)) (b:=1) kq (by first|omega|assumption|decide) (by first|omega|assumption|decide)) ?_
                   refine vrun 1 kq ?_
                   refine vend kq ?_
                   refine AThen_normal ⟨(i+1,w.tdiv 2,o),?_,?_,⟨⟨kq,kq,kq,kq,kq,kq,kq,trivial⟩,by simp [BelL,AVal.bel],by simp,kq,by simp [AObj.belO]⟩⟩
                   · try dsimp only
                     omega
                   · try dsimp only
                     first|(refine ⟨⟨by omega,hwd.1,hwd.2⟩,⟨ho5,hnk,?_⟩,?_⟩;(exact osz_step hosz);rw [← hR,recF_step _ i w o oq,if_neg aq];done)|(refine ⟨⟨by omega,hwd.1,hwd.2⟩,⟨rfl,putT_nk _ _ _ hnk,?_⟩,?_⟩;(have h1:=putT_sz o (nms.getD i []) (closedT l (d - 1).toNat (q+2+3 * i));have h2:=hsm (q+2+3 * i);have h3:=nms_at i;omega);(rw [← hR,recF_step _ i w o oq,if_pos aq]);done)
               · refine wIfF kq (Eq.trans (b:=.bool (decide (((i:Nat):Int)<4))) kq (congrArg AVal.bool (decide_eq_false hb19))) ?_
                 refine wExit 1 kq kq ?_
                 refine AThen_exit ?_
                 refine AThen_exit ?_
                 refine AIn_exit ?_
                 refine AThen_normal ?_
                 refine wSt [6,8] [(6,.ptr 0 0),(8,.ptr 1 0)] [.box [.int .i64 0,.str [],.int .i64 0,.full [],.full []],.box [.int .i64 (o.kind),.str o.name,.int .i64 (o.n),.imm (o.names.map AVal.str),.own 2 0 o.kids.length],.arr 5 (o.kids.map Ty.enc) 0] kq kq ?_
                 refine wSeq kq ?_
                 refine wOrd kq (vstart ?_)
                 refine vrun 2 kq ?_
                 refine vend kq ?_
                 refine AThen_normal ?_
                 refine wSt [6] [(6,.ptr 0 0)] [.box [.int .i64 (o.kind),.str o.name,.int .i64 (o.n),.imm (o.names.map AVal.str),.own 2 0 o.kids.length],.box [.int .i64 (o.kind),.str o.name,.int .i64 (o.n),.imm (o.names.map AVal.str),.own 2 0 o.kids.length],.arr 5 (o.kids.map Ty.enc) 0] kq kq ?_
                 refine wRen [2,0] [(6,.ptr 1 0)] [.arr 5 (o.kids.map Ty.enc) 0,.box [.int .i64 (o.kind),.str o.name,.int .i64 (o.n),.imm (o.names.map AVal.str),.own 0 0 o.kids.length]] dq (by simp [-List.map_append,-List.map_take,-List.map_drop,-List.append_assoc,AVal.refs,refsL,AObj.refs,AObj.isIter,objOk,Abs.renT,keepH,renO,AObj.ren,AVal.ren,renL,List.idxOf_cons]) (by simp [-List.map_append,-List.map_take,-List.map_drop,-List.append_assoc,AVal.refs,refsL,AObj.refs,AObj.isIter,objOk,Abs.renT,keepH,renO,AObj.ren,AVal.ren,renL,List.idxOf_cons]) (by simp [-List.map_append,-List.map_take,-List.map_drop,-List.append_assoc,AVal.refs,refsL,AObj.refs,AObj.isIter,objOk,Abs.renT,keepH,renO,AObj.ren,AVal.ren,renL,List.idxOf_cons]) (by simp [-List.map_append,-List.map_take,-List.map_drop,-List.append_assoc,AVal.refs,refsL,AObj.refs,AObj.isIter,objOk,Abs.renT,keepH,renO,AObj.ren,AVal.ren,renL,List.idxOf_cons]) ?_
                 refine wSt [6] [(6,.ptr 1 0)] [.arr 5 (o.kids.map Ty.enc) 0,.box [.int .i64 (o.kind),.str o.name,.int .i64 (o.n),.imm (o.names.map AVal.str),.own 0 0 o.kids.length]] kq kq ?_
                 refine wRet kq ?_
                 refine leafR (l:=[.agg [.int .i64 (o.kind),.str o.name,.int .i64 (o.n),.imm (o.names.map AVal.str),.own 0 0 o.kids.length]]) 1 [.arr 5 (o.kids.map Ty.enc) 0] (.inr rfl) kq (Nat.zero_le _) kq (by simp [awrap,-List.map_append,-List.map_take,-List.map_drop,-List.append_assoc]) (by simp [AObj.belO,-List.map_append,-List.map_take,-List.map_drop,-List.append_assoc]) ?_
                 rw [show 4 - i=0 by omega,recF] at hR
                 rw [← hR]
                 exact .inl ⟨ho5,rfl,rfl⟩
theorem closed_raw (l:List Int) (q:Nat) (d:Int) (hl:i64L l) (hq:(q:Int)+100 * d≤1000000) (hd:0≤d∧d≤2):CallsA cx 58 [.imm (l.map (.int .i64)),.int .i64 (q:Nat),.int .i64 d] [] (clQ (closedT l d.toNat q)):=closed_raw3 l q d hl hq ⟨hd.1,by omega⟩
end Go.Proofs.YtindpcpdkikdmaaGreatDoor
