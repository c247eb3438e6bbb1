/- A part of the proof: plain lemmas, rules and walks. No condition. -/
import Derived.Test.YtdikgijfekfaoaaGreatDoorP3
import Derived.Sort.Walk0
import Derived.Test.YtdikgijfekfaoaaGreatDoorRows
import Derived.Lay
set_option linter.all false
namespace Go.Proofs.YtdikgijfekfaoaaGreatDoor
open Go.Proofs.YtdikgijfekfaoaaGreatDoor.Abs
set_option maxRecDepth 20000
set_option maxHeartbeats 4000000
def lJ (l:List (List UInt8)) (i:Nat):Bool:=cu 2 (l.getD i []) && (i==0 || aY (l.getD (i - 1) []) (l.getD i []))
def oI (l:List (List UInt8)):Bool:=(List.range l.length).all (lJ l)
theorem td {l:List (List UInt8)} (h:∀ i,i<l.length→lJ l i=true):oI l=true:=by
 unfold oI;rw [List.all_eq_true];intro i hi;exact h i (List.mem_range.1 hi)
theorem lp {l:List (List UInt8)} {i:Nat} (hi:i<l.length) (h:lJ l i=false):oI l=false:=by
 rw [Bool.eq_false_iff];intro hc;unfold oI at hc;rw [List.all_eq_true] at hc
 rw [hc i (List.mem_range.2 hi)] at h;cases h
def fmd (t:Ty):Bool :=
 if t.kind=0∨t.kind=1∨t.kind=2 then decide (t.name=[]∧t.n=0∧t.names.length=0∧t.kids.length=0)
 else if t.kind=3 then decide (t.n=0∧t.names.length=0∧t.kids.length=0∧upN t.name=true)
 else if t.kind=4 then decide (t.name=[]∧t.n=0∧t.names.length=0∧t.kids.length=1)
 else if t.kind=6 then decide (t.name=[]∧1≤t.n∧t.names.length=0∧t.kids.length=0)
 else if t.kind=5 then decide (oI t.names=true∧t.name=[]∧0≤t.n∧t.names.length=t.kids.length)
 else false
def aQ (l:List (List UInt8)) (s:List UInt8):Int:=match l.findIdx? (·==s) with
 | some i=>(i:Nat)
 | none=>-1
theorem B7 {l:List (List UInt8)} {s:List UInt8} {k:Nat} (hk:k<l.length) (ha:∀ i,i<k→¬ s=l.getD i []) (h:s=l.getD k []):((k:Nat):Int)=aQ l s:=by
 have e:∀ i (h:i<l.length),l.getD i []=l[i]:=fun i h=>by rw [List.getD_eq_getElem?_getD,List.getElem?_eq_getElem h];rfl
 have:l.findIdx? (·==s)=some k:=by
  rw [List.findIdx?_eq_some_iff_getElem]
  refine ⟨hk,by rw [← e k hk,← h];simp,fun j hj=>?_⟩
  have:=ha j hj
  rw [e j oq] at this
  simpa using fun h=>this h.symm
 simp [aQ,this]
theorem BO {l:List (List UInt8)} {s:List UInt8} (ha:∀ i,i<l.length→¬ s=l.getD i []):-1=aQ l s:=by
 have:l.findIdx? (·==s)=none:=by
  rw [List.findIdx?_eq_none_iff]
  intro x hx
  obtain ⟨i,hi,rfl⟩:=List.getElem_of_mem hx
  have:=ha i hi
  rw [List.getD_eq_getElem?_getD,List.getElem?_eq_getElem hi] at this
  simpa using fun h:l[i]=s=>this h.symm
 simp [aQ,this]
theorem hZ (l:List (List UInt8)) (s:List UInt8):decide (aQ l s ≥ 0)=l.contains s:=by
 rw [Bool.eq_iff_iff]
 simp only [decide_eq_true_eq,List.contains_iff_mem]
 unfold aQ
 split
 · rename_i i hi
   obtain ⟨h1,h2,_⟩:=List.findIdx?_eq_some_iff_getElem.1 hi
   simp at h2
   exact ⟨fun _=>h2▸List.getElem_mem h1,fun _=>by omega⟩
 · rename_i hi
   rw [List.findIdx?_eq_none_iff] at hi
   exact ⟨fun h=>by omega,fun h=>by have:=hi s h;simp at this⟩
noncomputable def c99:Code:=aE Tryz.f99
theorem iZ (l:List (List UInt8)) (s:List UInt8) (hn:l.length<1000000000):ay cx 99 [.imm (l.map aa.str),.str s] (.int .i64 (aQ l s)):=by
 refine ap (cx:=cx) 19 0 [(ResultVar.tmp 4)] Tryz.func99 rfl rfl rfl rfl rfl zq ?_
 show wpA cx 19 0 (at_ c99 []) _ _ _
 refine qZ [(0,.imm (l.map aa.str)),(1,.str s)] [] ?_ ?_
 refine qU 1 [(0,.imm (l.map aa.str)),(1,.str s)] ?_ ?_
 refine ar ?_ ?_
 refine qV 1 ?_ ?_
 refine qy (au (l:=l) (enc:=aa.str) kq bi) ?_ ?_ ?_
 refine qR 1 [(0,.imm (l.map aa.str)),(1,.str s),(7,nI l.length),(8,.int .i64 0)] [] ?_ ?_
 refine qB 0 ?_ ?_ ?_
 refine bR (σ:=Nat) (fun k=>[(0,.imm (l.map aa.str)),(1,.str s),(7,.int .i64 ((l.length:Nat):Int)),(8,.int .i64 ((k:Nat):Int))]) (fun k=>[]) (fun k=>k≤l.length∧∀ i,i<k→¬ s=l.getD i []) (fun k=>l.length - k) 0 kq zq ⟨⟨kq,kq,kq,kq,trivial⟩,by simp [aV,aa.bel],by simp,kq,by simp⟩ ?_
 rintro k ⟨hk,ha⟩
 refine qW 1 [(0,.imm (l.map aa.str)),(1,.str s),(7,nI l.length),(8,nI k),(9,.bool (decide (((k:Nat):Int)<((l.length:Nat):Int))))] [] ?_ ?_
 refine ar ?_ ?_
 by_cases hb1:((k:Nat):Int)<((l.length:Nat):Int)
 refine qt (decide_eq_true hb1) ?_ ?_
 refine qK ?_ ?_
 refine qz [(0,.imm (l.map aa.str)),(1,.str s),(7,nI l.length),(8,nI k)] ?_ ?_
 refine ar ?_ ?_
 refine qB 1 ?_ ?_ ?_
 refine qU 2 [(0,.imm (l.map aa.str)),(1,.str s),(5,nI k),(7,nI l.length),(8,nI k)] ?_ ?_
 refine qV 3 ?_ ?_
 refine qy (ax (k:=.i64) (l:=l) (enc:=aa.str) (i:=((k:Nat):Int)) [] kq bi ty9 (fun _=>rfl) oq oq) ?_ ?_ ?_
 refine qR 2 [(0,.imm (l.map aa.str)),(1,.str s),(5,nI k),(7,nI l.length),(8,nI k),(16,.bool (s==(l.getD k [])))] [] ?_ ?_
 by_cases hb2:s=(l.getD k [])
 refine qt (beq_iff_eq.2 hb2) ?_ ?_
 refine qV 2 ?_ ?_
 refine qT ?_ ?_
 apply iR
 apply aR
 apply aR
 apply iR
 apply aR
 refine b8 (n:=((k:Nat):Int)) (.inr rfl) kq ?_
 rotate_left
 iterate 3 kernel_rfl
 refine qf (beq_eq_false_iff_ne.2 hb2) ?_ ?_
 refine qk ?_ ?_
 refine ak ?_
 refine ab ?_
 refine qz [(0,.imm (l.map aa.str)),(1,.str s),(7,nI l.length),(8,nI k)] ?_ ?_
 refine qo ?_ ?_
 refine qy (aN (a:=((k:Nat):Int)) (b:=1) kq oq oq) ?_ ?_ ?_
 refine qr 1 ?_ ?_
 refine qe ?_ ?_
 refine ab ⟨k+1,?_,?_,⟨⟨kq,kq,kq,kq,trivial⟩,by simp [aV,aa.bel],by simp,kq,by simp⟩⟩
 · omega
 · refine ⟨by omega,fun i hi=>?_⟩
   rcases Nat.lt_succ_iff_lt_or_eq.1 hi with h|h
   · exact ha i h
   · subst h;assumption
 iterate 19 kernel_rfl
 refine qf (decide_eq_false hb1) ?_ ?_
 refine bC 0 kq kq ?_
 refine af ?_
 refine af ?_
 refine aA ?_
 refine ab ?_
 refine qz [] ?_ ?_
 refine qV 1 ?_ ?_
 refine qT ?_ ?_
 refine b8 (n:=(-1)) (.inr rfl) kq ?_
 rotate_left
 iterate 15 kernel_rfl
 all_goals
  first|exact B7 oq ha aq|exact BO (fun i hi=>ha i oq)
noncomputable def c96:Code:=aE Tryz.f96
theorem fo (l:List (List UInt8)) (s:List UInt8) (hn:l.length<1000000000):ay cx 96 [.imm (l.map aa.str),.str s] (.bool (l.contains s)):=by
 refine ap (cx:=cx) 9 0 [(ResultVar.tmp 4)] Tryz.func96 rfl rfl rfl rfl rfl zq ?_
 show wpA cx 9 0 (at_ c96 []) _ _ _
 refine qZ [(0,.imm (l.map aa.str)),(1,.str s)] [] ?_ ?_
 refine qU 1 [(0,.imm (l.map aa.str)),(1,.str s)] ?_ ?_
 refine qV 2 ?_ ?_
 refine bp (args:=[.imm (l.map aa.str),.str s]) kq kq kq kq (iZ l s oq) (by simp [Ty.v]) (by simp [Ty.v]) (by simp [Ty.v]) ?_
 refine qX 2 ?_ ?_
 refine aH (b:=(decide ((aQ l s) ≥ 0))) (.inr rfl) kq ?_
 · exact hZ l s
 iterate 4 kernel_rfl
theorem zM (s:List UInt8):upN s=(!(([[73,110,116],[84,101,120,116],[66,111,111,108]]:List (List UInt8)).contains s) && cu 3 s):=by
 simp only [upN,List.contains_cons,List.contains_nil,Bool.or_false,Bool.not_or]
 rw [Bool.and_comm _ (cu 3 s)]
 simp only [Bool.and_assoc]
theorem kn {l:List (List UInt8)} {k:Nat} (h1:cu 2 (l.getD k [])=true) (h2:k=0∨aY (l.getD (k - 1) []) (l.getD k [])=true):lJ l k=true:=by
 rw [lJ,h1];rcases h2 with rfl|h2
 · rfl
 · rw [h2];simp
theorem DQ {l:List (List UInt8)} {k:Nat} (h1:¬ cu 2 (l.getD k [])=true):lJ l k=false:=by rw [lJ,Bool.eq_false_iff.2 h1];rfl
theorem xH {l:List (List UInt8)} {k:Nat} (h1:0<k) (h2:aY (l.getD (k - 1) []) (l.getD k [])=false):lJ l k=false:=by
 rw [lJ,h2];have:(k==0)=false:=by simp;omega
 rw [this];simp
theorem lL (a b:List UInt8):(aY a b || a==b)=!(aY b a):=by
 cases h:aY b a with
 | true =>
  have h1:aY a b=false:=by
   cases h2:aY a b with
   | false=>rfl
   | true=>have:=gK a b a h2 h;rw [fM] at this;cases this
  have h2:(a==b)=false:=by
   rw [beq_eq_false_iff_ne];rintro rfl;rw [fM] at h;cases h
  rw [h1,h2];rfl
 | false =>
  rcases nV b a h with rfl|h1
  · simp
  · rw [h1];rfl
theorem ir (k:Nat):(((k:Nat):Int) - 1).toNat=k - 1:=by omega
theorem I6 {t:Ty} (h:t.kind=0∨t.kind=1∨t.kind=2):fmd t=decide (t.name=[]∧t.n=0∧t.names.length=0∧t.kids.length=0):=by rw [fmd,if_pos h]
theorem HY {t:Ty} (h:t.kind=3):fmd t=decide (t.n=0∧t.names.length=0∧t.kids.length=0∧upN t.name=true):=by rw [fmd,if_neg oq,if_pos h]
theorem IL {t:Ty} (h:t.kind=4):fmd t=decide (t.name=[]∧t.n=0∧t.names.length=0∧t.kids.length=1):=by rw [fmd,if_neg oq,if_neg oq,if_pos h]
theorem Ik {t:Ty} (h:t.kind=6):fmd t=decide (t.name=[]∧1≤t.n∧t.names.length=0∧t.kids.length=0):=by rw [fmd,if_neg oq,if_neg oq,if_neg oq,if_pos h]
theorem It {t:Ty} (h:t.kind=5):fmd t=decide (oI t.names=true∧t.name=[]∧0≤t.n∧t.names.length=t.kids.length):=by rw [fmd,if_neg oq,if_neg oq,if_neg oq,if_neg oq,if_pos h]
theorem II {t:Ty} (h:t.kind<0∨6<t.kind):fmd t=false:=by rw [fmd,if_neg oq,if_neg oq,if_neg oq,if_neg oq,if_neg oq]
theorem I3 {s:List UInt8} (h1:¬ ([[73,110,116],[84,101,120,116],[66,111,111,108]]:List (List UInt8)).contains s=true) (h2:cu 3 s=true):upN s=true:=by rw [zM,Bool.eq_false_iff.2 h1,h2];rfl
theorem Ha {s:List UInt8} (h1:([[73,110,116],[84,101,120,116],[66,111,111,108]]:List (List UInt8)).contains s=true):¬ upN s=true:=by rw [zM,h1];simp
theorem HG {s:List UInt8} (h2:¬ cu 3 s=true):¬ upN s=true:=by rw [zM,Bool.eq_false_iff.2 h2];simp
theorem HE {l:List (List UInt8)} {k:Nat} (ha:∀ i,i<k→lJ l i=true) (hk:l.length≤k):oI l=true:=td fun i hi=>ha i oq
theorem G5 {l:List (List UInt8)} (k:Nat) (hk:k<l.length) (h:¬ cu 2 (l.getD k [])=true):¬ oI l=true:=Bool.eq_false_iff.1 (lp hk (DQ h))
theorem Fu {l:List (List UInt8)} (k:Nat) (hk:k<l.length) (h0:0<k) (h:(aY (l.getD k []) (l.getD (((k:Nat):Int) - 1).toNat []) || l.getD k []==l.getD (((k:Nat):Int) - 1).toNat [])=true):¬ oI l=true:=by
 rw [ir,lL] at h
 exact Bool.eq_false_iff.1 (lp hk (xH h0 (by simpa using h)))
theorem F2 {l:List (List UInt8)} (k:Nat) (hk:k<l.length) (h0:0<k) (h:¬ aY (l.getD (((k:Nat):Int) - 1).toNat []) (l.getD k [])=true):¬ oI l=true:=by
 rw [ir] at h
 exact Bool.eq_false_iff.1 (lp hk (xH h0 (Bool.eq_false_iff.2 h)))
noncomputable def c56:Code:=aE Tryz.f56
theorem tZ (t:Ty) (hs:t.sz<100000000):ay cx 56 [Ty.v t] (.bool (fmd t)):=by
 have hz1:=bK t
 have hz2:=ct t
 have hz3:=Ge t
 refine ap (cx:=cx) 139 0 [(ResultVar.tmp 2)] Tryz.func56 rfl rfl rfl rfl rfl zq ?_
 show wpA cx 139 0 (at_ c56 []) _ _ _
 refine qZ [(0,Ty.v t)] [] ?_ ?_
 refine qW 2 [(1,.ptr 0 0)] [t.bx] ?_ ?_
 refine qV 4 ?_ ?_
 by_cases hb1:t.name=[]
 refine qm [8,9] (beq_iff_eq.2 hb1) ?_ ?_
 refine qR 5 [(1,.ptr 0 0),(3,.bool ((t.n)==0))] [t.bx] ?_ ?_
 refine ar ?_ ?_
 refine qU 2 [(1,.ptr 0 0),(3,.bool ((t.n)==0)),(15,.int .i64 (t.kind))] ?_ ?_
 refine qB 0 ?_ ?_ ?_
 refine ar ?_ ?_
 refine qU 2 [(1,.ptr 0 0),(3,.bool ((t.n)==0)),(15,.int .i64 (t.kind)),(16,.bool ((t.kind)==0))] ?_ ?_
 by_cases hb2:(t.kind)=0
 refine qt (beq_iff_eq.2 hb2) ?_ ?_
 refine qK ?_ ?_
 refine qz [(1,.ptr 0 0),(3,.bool ((t.n)==0)),(15,.int .i64 (t.kind)),(16,.bool ((t.kind)==0))] ?_ ?_
 refine qt (beq_iff_eq.2 hb2) ?_ ?_
 refine qV 2 ?_ ?_
 by_cases hb4:(t.n)=0
 refine qm [3,20,21] (beq_iff_eq.2 hb4) ?_ ?_
 refine qr 2 ?_ ?_
 refine qy (au (l:=t.names) (enc:=aa.str) kq bi) ?_ ?_ ?_
 refine qr 2 ?_ ?_
 refine qy (au (l:=t.kids) (enc:=Ty.enc) kq bf) ?_ ?_ ?_
 refine qy (aN (a:=((t.names.length:Nat):Int)) (b:=((t.kids.length:Nat):Int)) kq oq oq) ?_ ?_ ?_
 refine qX 3 ?_ ?_
 apply iR
 apply aR
 refine aH (b:=((((t.names.length+t.kids.length):Nat):Int)==0)) (.inr rfl) kq ?_
 by_cases hb5:(((t.names.length+t.kids.length):Nat):Int)=0
 refine Eq.trans (beq_iff_eq.2 hb5) ?_
 rotate_left
 refine Eq.trans (beq_eq_false_iff_ne.2 hb5) ?_
 rotate_left
 iterate 10 kernel_rfl
 refine qm [3,20,21] (beq_eq_false_iff_ne.2 hb4) ?_ ?_
 refine qX 10 ?_ ?_
 apply iR
 apply aR
 refine aH (b:=false) (.inr rfl) kq ?_
 rotate_left
 iterate 7 kernel_rfl
 refine qf (beq_eq_false_iff_ne.2 hb2) ?_ ?_
 refine qU 2 [(1,.ptr 0 0),(3,.bool ((t.n)==0)),(15,.int .i64 (t.kind)),(16,.bool ((t.kind)==1))] ?_ ?_
 by_cases hb6:(t.kind)=1
 refine qt (beq_iff_eq.2 hb6) ?_ ?_
 refine qK ?_ ?_
 refine qz [(1,.ptr 0 0),(3,.bool ((t.n)==0)),(15,.int .i64 (t.kind)),(16,.bool ((t.kind)==1))] ?_ ?_
 refine qt (beq_iff_eq.2 hb6) ?_ ?_
 refine qV 2 ?_ ?_
 by_cases hb8:(t.n)=0
 refine qm [3,20,21] (beq_iff_eq.2 hb8) ?_ ?_
 refine qr 2 ?_ ?_
 refine qy (au (l:=t.names) (enc:=aa.str) kq bi) ?_ ?_ ?_
 refine qr 2 ?_ ?_
 refine qy (au (l:=t.kids) (enc:=Ty.enc) kq bf) ?_ ?_ ?_
 refine qy (aN (a:=((t.names.length:Nat):Int)) (b:=((t.kids.length:Nat):Int)) kq oq oq) ?_ ?_ ?_
 refine qX 3 ?_ ?_
 apply iR
 apply aR
 refine aH (b:=((((t.names.length+t.kids.length):Nat):Int)==0)) (.inr rfl) kq ?_
 by_cases hb9:(((t.names.length+t.kids.length):Nat):Int)=0
 refine Eq.trans (beq_iff_eq.2 hb9) ?_
 rotate_left
 refine Eq.trans (beq_eq_false_iff_ne.2 hb9) ?_
 rotate_left
 iterate 10 kernel_rfl
 refine qm [3,20,21] (beq_eq_false_iff_ne.2 hb8) ?_ ?_
 refine qX 10 ?_ ?_
 apply iR
 apply aR
 refine aH (b:=false) (.inr rfl) kq ?_
 rotate_left
 iterate 7 kernel_rfl
 refine qf (beq_eq_false_iff_ne.2 hb6) ?_ ?_
 refine qo ?_ ?_
 refine qR 2 [(1,.ptr 0 0),(3,.bool ((t.n)==0)),(15,.int .i64 (t.kind)),(16,.bool ((t.kind)==2))] [t.bx] ?_ ?_
 by_cases hb10:(t.kind)=2
 refine qt (beq_iff_eq.2 hb10) ?_ ?_
 refine qV 2 ?_ ?_
 by_cases hb11:(t.n)=0
 refine qm [3,20,21] (beq_iff_eq.2 hb11) ?_ ?_
 refine qr 2 ?_ ?_
 refine qy (au (l:=t.names) (enc:=aa.str) kq bi) ?_ ?_ ?_
 refine qr 2 ?_ ?_
 refine qy (au (l:=t.kids) (enc:=Ty.enc) kq bf) ?_ ?_ ?_
 refine qy (aN (a:=((t.names.length:Nat):Int)) (b:=((t.kids.length:Nat):Int)) kq oq oq) ?_ ?_ ?_
 refine qX 3 ?_ ?_
 apply iR
 apply aR
 refine aH (b:=((((t.names.length+t.kids.length):Nat):Int)==0)) (.inr rfl) kq ?_
 by_cases hb12:(((t.names.length+t.kids.length):Nat):Int)=0
 refine Eq.trans (beq_iff_eq.2 hb12) ?_
 rotate_left
 refine Eq.trans (beq_eq_false_iff_ne.2 hb12) ?_
 rotate_left
 iterate 10 kernel_rfl
 refine qm [3,20,21] (beq_eq_false_iff_ne.2 hb11) ?_ ?_
 refine qX 10 ?_ ?_
 apply iR
 apply aR
 refine aH (b:=false) (.inr rfl) kq ?_
 rotate_left
 iterate 4 kernel_rfl
 refine qf (beq_eq_false_iff_ne.2 hb10) ?_ ?_
 refine qU 2 [(1,.ptr 0 0),(3,.bool ((t.n)==0)),(15,.int .i64 (t.kind)),(31,.bool ((t.kind)==3))] ?_ ?_
 by_cases hb13:(t.kind)=3
 refine qt (beq_iff_eq.2 hb13) ?_ ?_
 refine qV 4 ?_ ?_
 by_cases hb14:(t.n)=0
 refine qm [3,35,36] (beq_iff_eq.2 hb14) ?_ ?_
 refine qr 2 ?_ ?_
 refine qy (au (l:=t.names) (enc:=aa.str) kq bi) ?_ ?_ ?_
 refine qr 2 ?_ ?_
 refine qy (au (l:=t.kids) (enc:=Ty.enc) kq bf) ?_ ?_ ?_
 refine qy (aN (a:=((t.names.length:Nat):Int)) (b:=((t.kids.length:Nat):Int)) kq oq oq) ?_ ?_ ?_
 refine qr 3 ?_ ?_
 by_cases hb15:(((t.names.length+t.kids.length):Nat):Int)=0
 refine qm [44,45,46] (beq_iff_eq.2 hb15) ?_ ?_
 refine qr 3 ?_ ?_
 refine qc [.full [.str [73,110,116],.str [84,101,120,116],.str [66,111,111,108]],.str t.name] (fo [[73,110,116],[84,101,120,116],[66,111,111,108]] t.name (by simp)) ?_ ?_
 refine qr 3 ?_ ?_
 by_cases hb16:([[73,110,116],[84,101,120,116],[66,111,111,108]].contains t.name)=true
 refine qm [51,52,53] (x:=(!([[73,110,116],[84,101,120,116],[66,111,111,108]].contains t.name))) (congrArg not (hb16)) ?_ ?_
 refine qX 6 ?_ ?_
 apply iR
 apply aR
 refine aH (b:=false) (.inr rfl) kq ?_
 rotate_left
 iterate 2 kernel_rfl
 refine qm [51,52,53] (x:=(!([[73,110,116],[84,101,120,116],[66,111,111,108]].contains t.name))) (congrArg not (Bool.eq_false_iff.2 hb16)) ?_ ?_
 refine qr 3 ?_ ?_
 refine qc [.agg [.int .i64 3,.str t.name,.int .i64 0]] (p8 t.name oq) ?_ ?_
 refine qX 2 ?_ ?_
 apply iR
 apply aR
 refine aH (b:=(cu 3 t.name)) (.inr rfl) kq ?_
 by_cases hb17:(cu 3 t.name)=true
 refine Eq.trans (hb17) ?_
 rotate_left
 refine Eq.trans (Bool.eq_false_iff.2 hb17) ?_
 rotate_left
 iterate 8 kernel_rfl
 refine qm [44,45,46] (beq_eq_false_iff_ne.2 hb15) ?_ ?_
 refine qX 13 ?_ ?_
 apply iR
 apply aR
 refine aH (b:=false) (.inr rfl) kq ?_
 rotate_left
 iterate 12 kernel_rfl
 refine qm [3,35,36] (beq_eq_false_iff_ne.2 hb14) ?_ ?_
 refine qX 23 ?_ ?_
 apply iR
 apply aR
 refine aH (b:=false) (.inr rfl) kq ?_
 rotate_left
 iterate 4 kernel_rfl
 refine qf (beq_eq_false_iff_ne.2 hb13) ?_ ?_
 refine qU 2 [(1,.ptr 0 0),(3,.bool ((t.n)==0)),(15,.int .i64 (t.kind)),(59,.bool ((t.kind)==4))] ?_ ?_
 by_cases hb18:(t.kind)=4
 refine qt (beq_iff_eq.2 hb18) ?_ ?_
 refine qV 2 ?_ ?_
 by_cases hb19:(t.n)=0
 refine qm [3,61,62] (beq_iff_eq.2 hb19) ?_ ?_
 refine qr 2 ?_ ?_
 refine qy (au (l:=t.names) (enc:=aa.str) kq bi) ?_ ?_ ?_
 refine qr 3 ?_ ?_
 by_cases hb20:((t.names.length:Nat):Int)=0
 refine qm [66,67,68] (beq_iff_eq.2 hb20) ?_ ?_
 refine qr 2 ?_ ?_
 refine qy (au (l:=t.kids) (enc:=Ty.enc) kq bf) ?_ ?_ ?_
 refine qX 3 ?_ ?_
 apply iR
 apply aR
 refine aH (b:=(((t.kids.length:Nat):Int)==1)) (.inr rfl) kq ?_
 by_cases hb21:((t.kids.length:Nat):Int)=1
 refine Eq.trans (beq_iff_eq.2 hb21) ?_
 rotate_left
 refine Eq.trans (beq_eq_false_iff_ne.2 hb21) ?_
 rotate_left
 iterate 5 kernel_rfl
 refine qm [66,67,68] (beq_eq_false_iff_ne.2 hb20) ?_ ?_
 refine qX 6 ?_ ?_
 apply iR
 apply aR
 refine aH (b:=false) (.inr rfl) kq ?_
 rotate_left
 iterate 7 kernel_rfl
 refine qm [3,61,62] (beq_eq_false_iff_ne.2 hb19) ?_ ?_
 refine qX 12 ?_ ?_
 apply iR
 apply aR
 refine aH (b:=false) (.inr rfl) kq ?_
 rotate_left
 iterate 4 kernel_rfl
 refine qf (beq_eq_false_iff_ne.2 hb18) ?_ ?_
 refine qU 2 [(1,.ptr 0 0),(15,.int .i64 (t.kind)),(74,.bool ((t.kind)==6))] ?_ ?_
 by_cases hb22:(t.kind)=6
 refine qt (beq_iff_eq.2 hb22) ?_ ?_
 refine qV 4 ?_ ?_
 refine qm [78,79] (beq_iff_eq.2 hb1) ?_ ?_
 refine qr 5 ?_ ?_
 by_cases hb24:(t.n) ≥ 1
 refine qm [82,83,84] (decide_eq_true hb24) ?_ ?_
 refine qr 2 ?_ ?_
 refine qy (au (l:=t.names) (enc:=aa.str) kq bi) ?_ ?_ ?_
 refine qr 2 ?_ ?_
 refine qy (au (l:=t.kids) (enc:=Ty.enc) kq bf) ?_ ?_ ?_
 refine qy (aN (a:=((t.names.length:Nat):Int)) (b:=((t.kids.length:Nat):Int)) kq oq oq) ?_ ?_ ?_
 refine qX 3 ?_ ?_
 apply iR
 apply aR
 refine aH (b:=((((t.names.length+t.kids.length):Nat):Int)==0)) (.inr rfl) kq ?_
 by_cases hb25:(((t.names.length+t.kids.length):Nat):Int)=0
 refine Eq.trans (beq_iff_eq.2 hb25) ?_
 rotate_left
 refine Eq.trans (beq_eq_false_iff_ne.2 hb25) ?_
 rotate_left
 iterate 10 kernel_rfl
 refine qm [82,83,84] (decide_eq_false hb24) ?_ ?_
 refine qX 10 ?_ ?_
 apply iR
 apply aR
 refine aH (b:=false) (.inr rfl) kq ?_
 rotate_left
 iterate 6 kernel_rfl
 refine qf (beq_eq_false_iff_ne.2 hb22) ?_ ?_
 refine qU 2 [(1,.ptr 0 0),(94,.bool ((t.kind)==5))] ?_ ?_
 by_cases hb26:(t.kind)=5
 refine qt (beq_iff_eq.2 hb26) ?_ ?_
 refine ar ?_ ?_
 refine qV 2 ?_ ?_
 refine qy (au (l:=t.names) (enc:=aa.str) kq bi) ?_ ?_ ?_
 refine qR 1 [(1,.ptr 0 0),(97,.imm (t.names.map aa.str)),(98,nI t.names.length),(99,.int .i64 0)] [t.bx] ?_ ?_
 refine qB 1 ?_ ?_ ?_
 refine bR (σ:=Nat) (fun k=>[(1,.ptr 0 0),(97,.imm (t.names.map aa.str)),(98,.int .i64 ((t.names.length:Nat):Int)),(99,.int .i64 ((k:Nat):Int))]) (fun k=>[t.bx]) (fun k=>k≤t.names.length∧∀ i,i<k→lJ t.names i=true) (fun k=>t.names.length - k) 0 kq zq ⟨⟨kq,kq,kq,kq,trivial⟩,by simp [aV,aa.bel],by simp,kq,by simp [ai.belO]⟩ ?_
 rintro k ⟨hk,ha⟩
 refine qW 1 [(1,.ptr 0 0),(97,.imm (t.names.map aa.str)),(98,nI t.names.length),(99,nI k),(100,.bool (decide (((k:Nat):Int)<((t.names.length:Nat):Int))))] [t.bx] ?_ ?_
 refine ar ?_ ?_
 by_cases hb27:((k:Nat):Int)<((t.names.length:Nat):Int)
 refine qt (decide_eq_true hb27) ?_ ?_
 refine qK ?_ ?_
 refine qz [(1,.ptr 0 0),(97,.imm (t.names.map aa.str)),(98,nI t.names.length),(99,nI k)] ?_ ?_
 refine ar ?_ ?_
 refine qB 2 ?_ ?_ ?_
 refine qV 1 ?_ ?_
 refine qy (ax (k:=.i64) (l:=t.names) (enc:=aa.str) (i:=((k:Nat):Int)) [] kq bi ty9 (fun _=>rfl) oq oq) ?_ ?_ ?_
 refine qR 3 [(1,.ptr 0 0),(4,nI k),(5,.str (t.names.getD k [])),(97,.imm (t.names.map aa.str)),(98,nI t.names.length),(99,nI k)] [t.bx] ?_ ?_
 refine qV 1 ?_ ?_
 refine qc [.str (t.names.getD k [])] (jr (t.names.getD k []) (by have:=fi t k;omega)) ?_ ?_
 refine qr 2 ?_ ?_
 by_cases hb28:(cu 2 (t.names.getD k []))=true
 refine qm [106,107] (x:=(!(cu 2 (t.names.getD k [])))) (congrArg not (hb28)) ?_ ?_
 refine qr 3 ?_ ?_
 by_cases hb29:((k:Nat):Int) > 0
 refine qm [109,110] (decide_eq_true hb29) ?_ ?_
 refine qr 4 ?_ ?_
 refine qy (Az (a:=((k:Nat):Int)) (b:=1) kq oq oq) ?_ ?_ ?_
 refine qy (ax (k:=.i64) (l:=t.names) (enc:=aa.str) (i:=(((k:Nat):Int) - 1)) [] kq bi ty9 (fun _=>rfl) oq oq) ?_ ?_ ?_
 refine qR 4 [(1,.ptr 0 0),(97,.imm (t.names.map aa.str)),(98,nI t.names.length),(99,nI k),(108,nI k),(109,.bool true),(110,.bool true),(111,.str (t.names.getD k [])),(112,.ptr 0 3),(113,.imm (t.names.map aa.str)),(114,nI k),(115,.int .i64 (((k:Nat):Int) - 1)),(116,.pimm [.str (t.names.getD (((((k:Nat):Int) - 1)).toNat) [])] 0),(117,.str (t.names.getD (((((k:Nat):Int) - 1)).toNat) [])),(118,.bool (aY (t.names.getD k []) (t.names.getD (((((k:Nat):Int) - 1)).toNat) []) || (t.names.getD k [])==(t.names.getD (((((k:Nat):Int) - 1)).toNat) []))),(119,.bool (aY (t.names.getD k []) (t.names.getD (((((k:Nat):Int) - 1)).toNat) []) || (t.names.getD k [])==(t.names.getD (((((k:Nat):Int) - 1)).toNat) []))),(120,.bool (aY (t.names.getD k []) (t.names.getD (((((k:Nat):Int) - 1)).toNat) []) || (t.names.getD k [])==(t.names.getD (((((k:Nat):Int) - 1)).toNat) [])))] [t.bx] ?_ ?_
 by_cases hb30:(aY (t.names.getD k []) (t.names.getD (((((k:Nat):Int) - 1)).toNat) []) || (t.names.getD k [])==(t.names.getD (((((k:Nat):Int) - 1)).toNat) []))=true
 refine qt (hb30) ?_ ?_
 refine qV 1 ?_ ?_
 refine qT ?_ ?_
 apply iR
 apply aR
 apply aR
 apply iR
 apply aR
 apply iR
 apply aR
 refine aH (b:=false) (.inr rfl) kq ?_
 rotate_left
 iterate 3 kernel_rfl
 refine qf (Bool.eq_false_iff.2 hb30) ?_ ?_
 refine qk ?_ ?_
 refine ak ?_
 refine ab ?_
 refine qz [(1,.ptr 0 0),(97,.imm (t.names.map aa.str)),(98,nI t.names.length),(99,nI k),(108,nI k),(109,.bool true),(110,.bool true),(111,.str (t.names.getD k [])),(112,.ptr 0 3),(113,.imm (t.names.map aa.str)),(114,nI k),(115,.int .i64 (((k:Nat):Int) - 1)),(116,.pimm [.str (t.names.getD (((((k:Nat):Int) - 1)).toNat) [])] 0),(117,.str (t.names.getD (((((k:Nat):Int) - 1)).toNat) [])),(118,.bool (aY (t.names.getD k []) (t.names.getD (((((k:Nat):Int) - 1)).toNat) []) || (t.names.getD k [])==(t.names.getD (((((k:Nat):Int) - 1)).toNat) []))),(119,.bool (aY (t.names.getD k []) (t.names.getD (((((k:Nat):Int) - 1)).toNat) []) || (t.names.getD k [])==(t.names.getD (((((k:Nat):Int) - 1)).toNat) [])))] ?_ ?_
 refine qo ?_ ?_
 refine qy (aN (a:=((k:Nat):Int)) (b:=1) kq oq oq) ?_ ?_ ?_
 refine qr 1 ?_ ?_
 refine qe ?_ ?_
 refine ab ⟨k+1,?_,?_,⟨⟨kq,kq,kq,kq,trivial⟩,by simp [aV,aa.bel],by simp,kq,by simp [ai.belO]⟩⟩
 · omega
 · refine ⟨by omega,fun i hi=>?_⟩
   rcases Nat.lt_succ_iff_lt_or_eq.1 hi with h|h
   · exact ha i h
   · subst h;refine kn aq ?_;first|(left;omega)|(right;simp_all [ir,lL];done)
 iterate 15 kernel_rfl
 refine qm [109,110] (decide_eq_false hb29) ?_ ?_
 refine qR 10 [(1,.ptr 0 0),(97,.imm (t.names.map aa.str)),(98,nI t.names.length),(99,nI k),(108,nI k),(109,.bool false),(110,.bool false),(111,.tup []),(112,.tup []),(113,.tup []),(114,.tup []),(115,.tup []),(116,.tup []),(117,.tup []),(118,.tup []),(119,.bool false),(120,.bool false)] [t.bx] ?_ ?_
 refine dY kq kq ?_
 refine qk ?_ ?_
 refine ak ?_
 refine ab ?_
 refine qz [(1,.ptr 0 0),(97,.imm (t.names.map aa.str)),(98,nI t.names.length),(99,nI k),(108,nI k),(109,.bool false),(110,.bool false),(111,.tup []),(112,.tup []),(113,.tup []),(114,.tup []),(115,.tup []),(116,.tup []),(117,.tup []),(118,.tup []),(119,.bool false)] ?_ ?_
 refine qo ?_ ?_
 refine qy (aN (a:=((k:Nat):Int)) (b:=1) kq oq oq) ?_ ?_ ?_
 refine qr 1 ?_ ?_
 refine qe ?_ ?_
 refine ab ⟨k+1,?_,?_,⟨⟨kq,kq,kq,kq,trivial⟩,by simp [aV,aa.bel],by simp,kq,by simp [ai.belO]⟩⟩
 · omega
 · refine ⟨by omega,fun i hi=>?_⟩
   rcases Nat.lt_succ_iff_lt_or_eq.1 hi with h|h
   · exact ha i h
   · subst h;refine kn aq ?_;first|(left;omega)|(right;simp_all [ir,lL];done)
 iterate 11 kernel_rfl
 refine qm [106,107] (x:=(!(cu 2 (t.names.getD k [])))) (congrArg not (Bool.eq_false_iff.2 hb28)) ?_ ?_
 refine qR 13 [(1,.ptr 0 0),(97,.imm (t.names.map aa.str)),(98,nI t.names.length),(99,nI k),(108,.tup []),(109,.tup []),(110,.tup []),(111,.tup []),(112,.tup []),(113,.tup []),(114,.tup []),(115,.tup []),(116,.tup []),(117,.tup []),(118,.tup []),(119,.tup []),(120,.bool true)] [t.bx] ?_ ?_
 refine cp kq kq ?_
 refine qV 1 ?_ ?_
 refine qT ?_ ?_
 apply iR
 apply aR
 apply aR
 apply iR
 apply aR
 apply iR
 apply aR
 refine aH (b:=false) (.inr rfl) kq ?_
 rotate_left
 iterate 17 kernel_rfl
 refine qf (decide_eq_false hb27) ?_ ?_
 refine bC 1 kq kq ?_
 refine af ?_
 refine af ?_
 refine aA ?_
 refine ab ?_
 refine qz [(1,.ptr 0 0)] ?_ ?_
 refine qV 4 ?_ ?_
 refine qm [124,125] (beq_iff_eq.2 hb1) ?_ ?_
 refine qr 5 ?_ ?_
 by_cases hb32:(t.n) ≥ 0
 refine qm [128,129,130] (decide_eq_true hb32) ?_ ?_
 refine qr 2 ?_ ?_
 refine qy (au (l:=t.names) (enc:=aa.str) kq bi) ?_ ?_ ?_
 refine qr 2 ?_ ?_
 refine qy (au (l:=t.kids) (enc:=Ty.enc) kq bf) ?_ ?_ ?_
 refine qX 3 ?_ ?_
 apply iR
 apply aR
 refine aH (b:=(((t.names.length:Nat):Int)==((t.kids.length:Nat):Int))) (.inr rfl) kq ?_
 by_cases hb33:((t.names.length:Nat):Int)=((t.kids.length:Nat):Int)
 refine Eq.trans (beq_iff_eq.2 hb33) ?_
 rotate_left
 refine Eq.trans (beq_eq_false_iff_ne.2 hb33) ?_
 rotate_left
 iterate 8 kernel_rfl
 refine qm [128,129,130] (decide_eq_false hb32) ?_ ?_
 refine qX 9 ?_ ?_
 apply iR
 apply aR
 refine aH (b:=false) (.inr rfl) kq ?_
 rotate_left
 iterate 17 kernel_rfl
 refine qf (beq_eq_false_iff_ne.2 hb26) ?_ ?_
 refine qk ?_ ?_
 refine ak ?_
 refine ab ?_
 refine qz [] ?_ ?_
 refine qV 1 ?_ ?_
 refine qT ?_ ?_
 refine aH (b:=false) (.inr rfl) kq ?_
 rotate_left
 iterate 26 kernel_rfl
 refine qm [8,9] (beq_eq_false_iff_ne.2 hb1) ?_ ?_
 refine qR 5 [(1,.ptr 0 0),(3,.bool false)] [t.bx] ?_ ?_
 refine ar ?_ ?_
 refine qU 2 [(1,.ptr 0 0),(3,.bool false),(15,.int .i64 (t.kind))] ?_ ?_
 refine qB 0 ?_ ?_ ?_
 refine ar ?_ ?_
 refine qU 2 [(1,.ptr 0 0),(3,.bool false),(15,.int .i64 (t.kind)),(16,.bool ((t.kind)==0))] ?_ ?_
 by_cases hb34:(t.kind)=0
 refine qt (beq_iff_eq.2 hb34) ?_ ?_
 refine qK ?_ ?_
 refine qz [(1,.ptr 0 0),(3,.bool false),(15,.int .i64 (t.kind)),(16,.bool ((t.kind)==0))] ?_ ?_
 refine qt (beq_iff_eq.2 hb34) ?_ ?_
 refine qV 12 ?_ ?_
 refine qT ?_ ?_
 apply iR
 apply aR
 refine aH (b:=false) (.inr rfl) kq ?_
 rotate_left
 iterate 6 kernel_rfl
 refine qf (beq_eq_false_iff_ne.2 hb34) ?_ ?_
 refine qU 2 [(1,.ptr 0 0),(3,.bool false),(15,.int .i64 (t.kind)),(16,.bool ((t.kind)==1))] ?_ ?_
 by_cases hb36:(t.kind)=1
 refine qt (beq_iff_eq.2 hb36) ?_ ?_
 refine qK ?_ ?_
 refine qz [(1,.ptr 0 0),(3,.bool false),(15,.int .i64 (t.kind)),(16,.bool ((t.kind)==1))] ?_ ?_
 refine qt (beq_iff_eq.2 hb36) ?_ ?_
 refine qV 12 ?_ ?_
 refine qT ?_ ?_
 apply iR
 apply aR
 refine aH (b:=false) (.inr rfl) kq ?_
 rotate_left
 iterate 6 kernel_rfl
 refine qf (beq_eq_false_iff_ne.2 hb36) ?_ ?_
 refine qo ?_ ?_
 refine qR 2 [(1,.ptr 0 0),(3,.bool false),(15,.int .i64 (t.kind)),(16,.bool ((t.kind)==2))] [t.bx] ?_ ?_
 by_cases hb38:(t.kind)=2
 refine qt (beq_iff_eq.2 hb38) ?_ ?_
 refine qV 12 ?_ ?_
 refine qT ?_ ?_
 apply iR
 apply aR
 refine aH (b:=false) (.inr rfl) kq ?_
 rotate_left
 iterate 3 kernel_rfl
 refine qf (beq_eq_false_iff_ne.2 hb38) ?_ ?_
 refine qU 2 [(1,.ptr 0 0),(3,.bool false),(15,.int .i64 (t.kind)),(31,.bool ((t.kind)==3))] ?_ ?_
 by_cases hb39:(t.kind)=3
 refine qt (beq_iff_eq.2 hb39) ?_ ?_
 refine qV 4 ?_ ?_
 by_cases hb40:(t.n)=0
 refine qm [35,36] (beq_iff_eq.2 hb40) ?_ ?_
 refine qr 2 ?_ ?_
 refine qy (au (l:=t.names) (enc:=aa.str) kq bi) ?_ ?_ ?_
 refine qr 2 ?_ ?_
 refine qy (au (l:=t.kids) (enc:=Ty.enc) kq bf) ?_ ?_ ?_
 refine qy (aN (a:=((t.names.length:Nat):Int)) (b:=((t.kids.length:Nat):Int)) kq oq oq) ?_ ?_ ?_
 refine qr 3 ?_ ?_
 by_cases hb41:(((t.names.length+t.kids.length):Nat):Int)=0
 refine qm [44,45,46] (beq_iff_eq.2 hb41) ?_ ?_
 refine qr 3 ?_ ?_
 refine qc [.full [.str [73,110,116],.str [84,101,120,116],.str [66,111,111,108]],.str t.name] (fo [[73,110,116],[84,101,120,116],[66,111,111,108]] t.name (by simp)) ?_ ?_
 refine qr 3 ?_ ?_
 by_cases hb42:([[73,110,116],[84,101,120,116],[66,111,111,108]].contains t.name)=true
 refine qm [51,52,53] (x:=(!([[73,110,116],[84,101,120,116],[66,111,111,108]].contains t.name))) (congrArg not (hb42)) ?_ ?_
 refine qX 6 ?_ ?_
 apply iR
 apply aR
 refine aH (b:=false) (.inr rfl) kq ?_
 rotate_left
 iterate 2 kernel_rfl
 refine qm [51,52,53] (x:=(!([[73,110,116],[84,101,120,116],[66,111,111,108]].contains t.name))) (congrArg not (Bool.eq_false_iff.2 hb42)) ?_ ?_
 refine qr 3 ?_ ?_
 refine qc [.agg [.int .i64 3,.str t.name,.int .i64 0]] (p8 t.name oq) ?_ ?_
 refine qX 2 ?_ ?_
 apply iR
 apply aR
 refine aH (b:=(cu 3 t.name)) (.inr rfl) kq ?_
 by_cases hb43:(cu 3 t.name)=true
 refine Eq.trans (hb43) ?_
 rotate_left
 refine Eq.trans (Bool.eq_false_iff.2 hb43) ?_
 rotate_left
 iterate 8 kernel_rfl
 refine qm [44,45,46] (beq_eq_false_iff_ne.2 hb41) ?_ ?_
 refine qX 13 ?_ ?_
 apply iR
 apply aR
 refine aH (b:=false) (.inr rfl) kq ?_
 rotate_left
 iterate 12 kernel_rfl
 refine qm [35,36] (beq_eq_false_iff_ne.2 hb40) ?_ ?_
 refine qX 23 ?_ ?_
 apply iR
 apply aR
 refine aH (b:=false) (.inr rfl) kq ?_
 rotate_left
 iterate 4 kernel_rfl
 refine qf (beq_eq_false_iff_ne.2 hb39) ?_ ?_
 refine qU 2 [(1,.ptr 0 0),(3,.bool false),(15,.int .i64 (t.kind)),(59,.bool ((t.kind)==4))] ?_ ?_
 by_cases hb44:(t.kind)=4
 refine qt (beq_iff_eq.2 hb44) ?_ ?_
 refine qV 14 ?_ ?_
 refine qT ?_ ?_
 apply iR
 apply aR
 refine aH (b:=false) (.inr rfl) kq ?_
 rotate_left
 iterate 3 kernel_rfl
 refine qf (beq_eq_false_iff_ne.2 hb44) ?_ ?_
 refine qU 2 [(1,.ptr 0 0),(15,.int .i64 (t.kind)),(74,.bool ((t.kind)==6))] ?_ ?_
 by_cases hb45:(t.kind)=6
 refine qt (beq_iff_eq.2 hb45) ?_ ?_
 refine qV 4 ?_ ?_
 refine qm [78,79] (beq_eq_false_iff_ne.2 hb1) ?_ ?_
 refine qX 15 ?_ ?_
 apply iR
 apply aR
 refine aH (b:=false) (.inr rfl) kq ?_
 rotate_left
 iterate 4 kernel_rfl
 refine qf (beq_eq_false_iff_ne.2 hb45) ?_ ?_
 refine qU 2 [(1,.ptr 0 0),(94,.bool ((t.kind)==5))] ?_ ?_
 by_cases hb47:(t.kind)=5
 refine qt (beq_iff_eq.2 hb47) ?_ ?_
 refine ar ?_ ?_
 refine qV 2 ?_ ?_
 refine qy (au (l:=t.names) (enc:=aa.str) kq bi) ?_ ?_ ?_
 refine qR 1 [(1,.ptr 0 0),(97,.imm (t.names.map aa.str)),(98,nI t.names.length),(99,.int .i64 0)] [t.bx] ?_ ?_
 refine qB 1 ?_ ?_ ?_
 refine bR (σ:=Nat) (fun k=>[(1,.ptr 0 0),(97,.imm (t.names.map aa.str)),(98,.int .i64 ((t.names.length:Nat):Int)),(99,.int .i64 ((k:Nat):Int))]) (fun k=>[t.bx]) (fun k=>k≤t.names.length∧∀ i,i<k→lJ t.names i=true) (fun k=>t.names.length - k) 0 kq zq ⟨⟨kq,kq,kq,kq,trivial⟩,by simp [aV,aa.bel],by simp,kq,by simp [ai.belO]⟩ ?_
 rintro k ⟨hk,ha⟩
 refine qW 1 [(1,.ptr 0 0),(97,.imm (t.names.map aa.str)),(98,nI t.names.length),(99,nI k),(100,.bool (decide (((k:Nat):Int)<((t.names.length:Nat):Int))))] [t.bx] ?_ ?_
 refine ar ?_ ?_
 by_cases hb48:((k:Nat):Int)<((t.names.length:Nat):Int)
 refine qt (decide_eq_true hb48) ?_ ?_
 refine qK ?_ ?_
 refine qz [(1,.ptr 0 0),(97,.imm (t.names.map aa.str)),(98,nI t.names.length),(99,nI k)] ?_ ?_
 refine ar ?_ ?_
 refine qB 2 ?_ ?_ ?_
 refine qV 1 ?_ ?_
 refine qy (ax (k:=.i64) (l:=t.names) (enc:=aa.str) (i:=((k:Nat):Int)) [] kq bi ty9 (fun _=>rfl) oq oq) ?_ ?_ ?_
 refine qR 3 [(1,.ptr 0 0),(4,nI k),(5,.str (t.names.getD k [])),(97,.imm (t.names.map aa.str)),(98,nI t.names.length),(99,nI k)] [t.bx] ?_ ?_
 refine qV 1 ?_ ?_
 refine qc [.str (t.names.getD k [])] (jr (t.names.getD k []) (by have:=fi t k;omega)) ?_ ?_
 refine qr 2 ?_ ?_
 by_cases hb49:(cu 2 (t.names.getD k []))=true
 refine qm [106,107] (x:=(!(cu 2 (t.names.getD k [])))) (congrArg not (hb49)) ?_ ?_
 refine qr 3 ?_ ?_
 by_cases hb50:((k:Nat):Int) > 0
 refine qm [109,110] (decide_eq_true hb50) ?_ ?_
 refine qr 4 ?_ ?_
 refine qy (Az (a:=((k:Nat):Int)) (b:=1) kq oq oq) ?_ ?_ ?_
 refine qy (ax (k:=.i64) (l:=t.names) (enc:=aa.str) (i:=(((k:Nat):Int) - 1)) [] kq bi ty9 (fun _=>rfl) oq oq) ?_ ?_ ?_
 refine qR 4 [(1,.ptr 0 0),(97,.imm (t.names.map aa.str)),(98,nI t.names.length),(99,nI k),(108,nI k),(109,.bool true),(110,.bool true),(111,.str (t.names.getD k [])),(112,.ptr 0 3),(113,.imm (t.names.map aa.str)),(114,nI k),(115,.int .i64 (((k:Nat):Int) - 1)),(116,.pimm [.str (t.names.getD (((((k:Nat):Int) - 1)).toNat) [])] 0),(117,.str (t.names.getD (((((k:Nat):Int) - 1)).toNat) [])),(118,.bool (aY (t.names.getD k []) (t.names.getD (((((k:Nat):Int) - 1)).toNat) []) || (t.names.getD k [])==(t.names.getD (((((k:Nat):Int) - 1)).toNat) []))),(119,.bool (aY (t.names.getD k []) (t.names.getD (((((k:Nat):Int) - 1)).toNat) []) || (t.names.getD k [])==(t.names.getD (((((k:Nat):Int) - 1)).toNat) []))),(120,.bool (aY (t.names.getD k []) (t.names.getD (((((k:Nat):Int) - 1)).toNat) []) || (t.names.getD k [])==(t.names.getD (((((k:Nat):Int) - 1)).toNat) [])))] [t.bx] ?_ ?_
 by_cases hb51:(aY (t.names.getD k []) (t.names.getD (((((k:Nat):Int) - 1)).toNat) []) || (t.names.getD k [])==(t.names.getD (((((k:Nat):Int) - 1)).toNat) []))=true
 refine qt (hb51) ?_ ?_
 refine qV 1 ?_ ?_
 refine qT ?_ ?_
 apply iR
 apply aR
 apply aR
 apply iR
 apply aR
 apply iR
 apply aR
 refine aH (b:=false) (.inr rfl) kq ?_
 rotate_left
 iterate 3 kernel_rfl
 refine qf (Bool.eq_false_iff.2 hb51) ?_ ?_
 refine qk ?_ ?_
 refine ak ?_
 refine ab ?_
 refine qz [(1,.ptr 0 0),(97,.imm (t.names.map aa.str)),(98,nI t.names.length),(99,nI k),(108,nI k),(109,.bool true),(110,.bool true),(111,.str (t.names.getD k [])),(112,.ptr 0 3),(113,.imm (t.names.map aa.str)),(114,nI k),(115,.int .i64 (((k:Nat):Int) - 1)),(116,.pimm [.str (t.names.getD (((((k:Nat):Int) - 1)).toNat) [])] 0),(117,.str (t.names.getD (((((k:Nat):Int) - 1)).toNat) [])),(118,.bool (aY (t.names.getD k []) (t.names.getD (((((k:Nat):Int) - 1)).toNat) []) || (t.names.getD k [])==(t.names.getD (((((k:Nat):Int) - 1)).toNat) []))),(119,.bool (aY (t.names.getD k []) (t.names.getD (((((k:Nat):Int) - 1)).toNat) []) || (t.names.getD k [])==(t.names.getD (((((k:Nat):Int) - 1)).toNat) [])))] ?_ ?_
 refine qo ?_ ?_
 refine qy (aN (a:=((k:Nat):Int)) (b:=1) kq oq oq) ?_ ?_ ?_
 refine qr 1 ?_ ?_
 refine qe ?_ ?_
 refine ab ⟨k+1,?_,?_,⟨⟨kq,kq,kq,kq,trivial⟩,by simp [aV,aa.bel],by simp,kq,by simp [ai.belO]⟩⟩
 · omega
 · refine ⟨by omega,fun i hi=>?_⟩
   rcases Nat.lt_succ_iff_lt_or_eq.1 hi with h|h
   · exact ha i h
   · subst h;refine kn aq ?_;first|(left;omega)|(right;simp_all [ir,lL];done)
 iterate 15 kernel_rfl
 refine qm [109,110] (decide_eq_false hb50) ?_ ?_
 refine qR 10 [(1,.ptr 0 0),(97,.imm (t.names.map aa.str)),(98,nI t.names.length),(99,nI k),(108,nI k),(109,.bool false),(110,.bool false),(111,.tup []),(112,.tup []),(113,.tup []),(114,.tup []),(115,.tup []),(116,.tup []),(117,.tup []),(118,.tup []),(119,.bool false),(120,.bool false)] [t.bx] ?_ ?_
 refine dY kq kq ?_
 refine qk ?_ ?_
 refine ak ?_
 refine ab ?_
 refine qz [(1,.ptr 0 0),(97,.imm (t.names.map aa.str)),(98,nI t.names.length),(99,nI k),(108,nI k),(109,.bool false),(110,.bool false),(111,.tup []),(112,.tup []),(113,.tup []),(114,.tup []),(115,.tup []),(116,.tup []),(117,.tup []),(118,.tup []),(119,.bool false)] ?_ ?_
 refine qo ?_ ?_
 refine qy (aN (a:=((k:Nat):Int)) (b:=1) kq oq oq) ?_ ?_ ?_
 refine qr 1 ?_ ?_
 refine qe ?_ ?_
 refine ab ⟨k+1,?_,?_,⟨⟨kq,kq,kq,kq,trivial⟩,by simp [aV,aa.bel],by simp,kq,by simp [ai.belO]⟩⟩
 · omega
 · refine ⟨by omega,fun i hi=>?_⟩
   rcases Nat.lt_succ_iff_lt_or_eq.1 hi with h|h
   · exact ha i h
   · subst h;refine kn aq ?_;first|(left;omega)|(right;simp_all [ir,lL];done)
 iterate 11 kernel_rfl
 refine qm [106,107] (x:=(!(cu 2 (t.names.getD k [])))) (congrArg not (Bool.eq_false_iff.2 hb49)) ?_ ?_
 refine qR 13 [(1,.ptr 0 0),(97,.imm (t.names.map aa.str)),(98,nI t.names.length),(99,nI k),(108,.tup []),(109,.tup []),(110,.tup []),(111,.tup []),(112,.tup []),(113,.tup []),(114,.tup []),(115,.tup []),(116,.tup []),(117,.tup []),(118,.tup []),(119,.tup []),(120,.bool true)] [t.bx] ?_ ?_
 refine cp kq kq ?_
 refine qV 1 ?_ ?_
 refine qT ?_ ?_
 apply iR
 apply aR
 apply aR
 apply iR
 apply aR
 apply iR
 apply aR
 refine aH (b:=false) (.inr rfl) kq ?_
 rotate_left
 iterate 17 kernel_rfl
 refine qf (decide_eq_false hb48) ?_ ?_
 refine bC 1 kq kq ?_
 refine af ?_
 refine af ?_
 refine aA ?_
 refine ab ?_
 refine qz [(1,.ptr 0 0)] ?_ ?_
 refine qV 4 ?_ ?_
 refine qm [124,125] (beq_eq_false_iff_ne.2 hb1) ?_ ?_
 refine qX 14 ?_ ?_
 apply iR
 apply aR
 refine aH (b:=false) (.inr rfl) kq ?_
 rotate_left
 iterate 15 kernel_rfl
 refine qf (beq_eq_false_iff_ne.2 hb47) ?_ ?_
 refine qk ?_ ?_
 refine ak ?_
 refine ab ?_
 refine qz [] ?_ ?_
 refine qV 1 ?_ ?_
 refine qT ?_ ?_
 refine aH (b:=false) (.inr rfl) kq ?_
 rotate_left
 iterate 29 kernel_rfl
 all_goals
  first|rw [II oq]|(first|rw [I6 oq]|rw [HY oq]|rw [IL oq]|rw [Ik oq]|rw [It oq])
  all_goals symm
  all_goals (first|(refine decide_eq_true ⟨?_,?_,?_,?_⟩ <;> (first|assumption|omega|exact I3 aq aq|exact HE ha oq))|(refine decide_eq_false ?_;rintro ⟨q1,q2,q3,q4⟩;(first|contradiction|omega|exact Ha aq aq|exact HG aq aq|exact G5 (l:=t.names) k oq aq aq|exact Fu (l:=t.names) k oq oq aq aq|exact F2 (l:=t.names) k oq oq aq aq)))
def bB (l:List (List UInt8)):aa:=.imm (l.map .str)
@[simp] theorem Jo (k:Nat) (l:List (Int×Bool)):((ae (aa.int .i64) aa.bool l).all fun e=>e.1.bel k && e.2.bel k)=true:=by
 simp [ae,List.all_eq_true]
@[simp] theorem Jn (k:Nat) (l:List (Int×List (List UInt8))):((ae (aa.int .i64) bB l).all fun e=>e.1.bel k && e.2.bel k)=true:=by
 simp [ae,bB,List.all_eq_true]
structure VSt where
 ok:Bool
 pl:List (Int×Bool)
 rw:List (Int×List (List UInt8))
def jy (w:Option (List (List UInt8))) (l:List (List UInt8)):Bool:=match w with
 | none=>true
 | some w=>w==l
def bk (s:VSt) (x:Ty):VSt :=
 if x.kind=6 then ⟨s.ok && fmd x,aJ x.n true s.pl,s.rw⟩
 else if x.kind=5∧x.n≠0 then ⟨s.ok && fmd x && jy (am x.n s.rw) x.names,s.pl,aJ x.n x.names s.rw⟩
 else ⟨s.ok && fmd x,s.pl,s.rw⟩
def hpV (u:Ty) (s:VSt):ac:=[.box [.int .i64 u.kind,.str u.name,.int .i64 u.n,.imm (u.names.map .str),.imm (u.kids.map Ty.enc)],.box [.bool s.ok],.map (ae (aa.int .i64) aa.bool s.pl),.box [.map 2],.map (ae (aa.int .i64) bB s.rw),.box [.map 4]]
def VSt.sm (s:VSt):Prop:=∀ k l,am k s.rw=some l→l.length<100000000
noncomputable def c55:Code:=aE Tryz.f55
theorem cP {p:Prop} (h:p:=by simp [aK]):p:=h
theorem zI (t u:Ty) (ok:Bool) (pl:List (Int×Bool)) (rw:List (Int×List (List UInt8))) (hs:t.sz<100000000) (hrw:VSt.sm ⟨ok,pl,rw⟩):av cx 55 [Ty.v t,.ptr 1 0,.ptr 3 0,.ptr 5 0] [u.bx,.box [.bool (ok)],.map (ae (aa.int .i64) aa.bool pl),.box [.map 2],.map (ae (aa.int .i64) bB rw),.box [.map 4]] (fun v h=>v=(.tup [])∧h=hpV u (bk ⟨ok,pl,rw⟩ t)):=by
 refine ap (cx:=cx) 49 6 [] Tryz.func55 rfl rfl rfl rfl rfl zq ?_
 show wpA cx 49 6 (at_ c55 []) _ _ _
 refine qZ [(0,Ty.v t),(1,.ptr 1 0),(2,.ptr 3 0),(3,.ptr 5 0)] [u.bx,.box [.bool (ok)],.map (ae (aa.int .i64) aa.bool pl),.box [.map 2],.map (ae (aa.int .i64) bB rw),.box [.map 4]] ?_ ?_
 refine qW 1 [(1,.ptr 1 0),(2,.ptr 3 0),(3,.ptr 5 0),(4,.ptr 6 0)] [u.bx,.box [.bool (ok)],.map (ae (aa.int .i64) aa.bool pl),.box [.map 2],.map (ae (aa.int .i64) bB rw),.box [.map 4],t.bx] ?_ ?_
 refine qV 2 ?_ ?_
 by_cases hb1:(ok)=true
 refine qm [7,8] (hb1) ?_ ?_
 refine qr 1 ?_ ?_
 refine bp (args:=[.agg [.int .i64 (t.kind),.str t.name,.int .i64 (t.n),.imm (t.names.map aa.str),.imm (t.kids.map Ty.enc)]]) kq kq kq kq (tZ t oq) (by simp [Ty.v]) (by simp [Ty.v]) (by simp [Ty.v]) ?_
 refine qR 2 [(1,.ptr 1 0),(2,.ptr 3 0),(3,.ptr 5 0),(4,.ptr 6 0)] [u.bx,.box [.bool (fmd t)],.map (ae (aa.int .i64) aa.bool pl),.box [.map 2],.map (ae (aa.int .i64) bB rw),.box [.map 4],t.bx] ?_ ?_
 refine qU 3 [(1,.ptr 1 0),(2,.ptr 3 0),(3,.ptr 5 0),(4,.ptr 6 0),(14,.bool ((t.kind)==6))] ?_ ?_
 by_cases hb2:(t.kind)=6
 refine qt (beq_iff_eq.2 hb2) ?_ ?_
 refine qo ?_ ?_
 refine qr 3 ?_ ?_
 refine qY (dc (o:=2) (ek:=(aa.int .i64)) (ev:=aa.bool) (l:=pl) (k:=(t.n)) (x:=true) dH kq Fl ty3 rfl kq kq) ?_ ?_ ?_
 refine qe ?_ ?_
 refine aL (l:=[]) (.inl rfl) kq cP cP cP ?_ ?_
 refine Eq.trans (b:=[u.bx,.box [.bool (fmd t)],.map (ae (aa.int .i64) aa.bool (aJ (t.n) true pl)),.box [.map 2],.map (ae (aa.int .i64) bB rw),.box [.map 4]]) kq ?_
 · simp [hpV,bk,jy, *]
 rotate_left
 iterate 6 kernel_rfl
 refine qf (beq_eq_false_iff_ne.2 hb2) ?_ ?_
 refine qV 4 ?_ ?_
 by_cases hb3:(t.kind)=5
 refine qm [20,21] (beq_iff_eq.2 hb3) ?_ ?_
 refine qR 4 [(1,.ptr 1 0),(3,.ptr 5 0),(4,.ptr 6 0),(25,.bool ((t.n) != 0))] [u.bx,.box [.bool (fmd t)],.map (ae (aa.int .i64) aa.bool pl),.box [.map 2],.map (ae (aa.int .i64) bB rw),.box [.map 4],t.bx] ?_ ?_
 by_cases hb4:(t.n)=0
 refine qf (x:=((t.n) != 0)) (bne_eq_false_iff_eq.2 hb4) ?_ ?_
 refine qk ?_ ?_
 refine aL (l:=[]) (.inl rfl) kq cP cP cP ?_ ?_
 refine Eq.trans (b:=[u.bx,.box [.bool (fmd t)],.map (ae (aa.int .i64) aa.bool pl),.box [.map 2],.map (ae (aa.int .i64) bB rw),.box [.map 4]]) kq ?_
 · simp [hpV,bk,jy, *]
 rotate_left
 iterate 2 kernel_rfl
 refine qt (x:=((t.n) != 0)) (bne_iff_ne.2 hb4) ?_ ?_
 refine qV 3 ?_ ?_
 rcases hm5:am (t.n) rw with _|x5
 refine qy (e8 (ok:=true) (o:=4) (ek:=(aa.int .i64)) (ev:=bB) (l:=rw) (k:=(t.n)) dH hm5 kq pH ty3 rfl bi kq) ?_ ?_ ?_
 refine qR 5 [(1,.ptr 1 0),(3,.ptr 5 0),(4,.ptr 6 0),(5,.full []),(6,.bool false)] [u.bx,.box [.bool (fmd t)],.map (ae (aa.int .i64) aa.bool pl),.box [.map 2],.map (ae (aa.int .i64) bB rw),.box [.map 4],t.bx] ?_ ?_
 refine qV 2 ?_ ?_
 by_cases hb6:(fmd t)=true
 refine qm [33,34] (hb6) ?_ ?_
 refine qR 10 [(3,.ptr 5 0),(4,.ptr 6 0)] [u.bx,.box [.bool true],.map (ae (aa.int .i64) aa.bool pl),.box [.map 2],.map (ae (aa.int .i64) bB rw),.box [.map 4],t.bx] ?_ ?_
 refine qo ?_ ?_
 refine qr 5 ?_ ?_
 refine qY (dc (o:=4) (ek:=(aa.int .i64)) (ev:=bB) (l:=rw) (k:=(t.n)) (x:=t.names) dH kq pH ty3 rfl kq kq) ?_ ?_ ?_
 refine qe ?_ ?_
 refine aL (l:=[]) (.inl rfl) kq cP cP cP ?_ ?_
 refine Eq.trans (b:=[u.bx,.box [.bool true],.map (ae (aa.int .i64) aa.bool pl),.box [.map 2],.map (ae (aa.int .i64) bB (aJ (t.n) t.names rw)),.box [.map 4]]) kq ?_
 · simp [hpV,bk,jy, *]
 rotate_left
 iterate 7 kernel_rfl
 refine qm [33,34] (Bool.eq_false_iff.2 hb6) ?_ ?_
 refine qR 10 [(3,.ptr 5 0),(4,.ptr 6 0)] [u.bx,.box [.bool false],.map (ae (aa.int .i64) aa.bool pl),.box [.map 2],.map (ae (aa.int .i64) bB rw),.box [.map 4],t.bx] ?_ ?_
 refine qo ?_ ?_
 refine qr 5 ?_ ?_
 refine qY (dc (o:=4) (ek:=(aa.int .i64)) (ev:=bB) (l:=rw) (k:=(t.n)) (x:=t.names) dH kq pH ty3 rfl kq kq) ?_ ?_ ?_
 refine qe ?_ ?_
 refine aL (l:=[]) (.inl rfl) kq cP cP cP ?_ ?_
 refine Eq.trans (b:=[u.bx,.box [.bool false],.map (ae (aa.int .i64) aa.bool pl),.box [.map 2],.map (ae (aa.int .i64) bB (aJ (t.n) t.names rw)),.box [.map 4]]) kq ?_
 · simp [hpV,bk,jy, *]
 rotate_left
 iterate 11 kernel_rfl
 refine qy (cH (ok:=true) (o:=4) (ek:=(aa.int .i64)) (ev:=bB) (l:=rw) (k:=(t.n)) (x:=x5) dH hm5 kq pH ty3 rfl bi kq) ?_ ?_ ?_
 refine qR 5 [(1,.ptr 1 0),(3,.ptr 5 0),(4,.ptr 6 0),(5,.imm (x5.map aa.str)),(6,.bool true)] [u.bx,.box [.bool (fmd t)],.map (ae (aa.int .i64) aa.bool pl),.box [.map 2],.map (ae (aa.int .i64) bB rw),.box [.map 4],t.bx] ?_ ?_
 refine qV 2 ?_ ?_
 by_cases hb7:(fmd t)=true
 refine qm [33,34] (hb7) ?_ ?_
 refine qr 6 ?_ ?_
 refine bp (args:=[.imm (x5.map aa.str),.imm (t.names.map aa.str)]) kq kq kq kq (iW x5 t.names (by exact Nat.lt_trans (hrw _ _ aq) dq)) (by simp [Ty.v]) (by simp [Ty.v]) (by simp [Ty.v]) ?_
 refine qR 3 [(3,.ptr 5 0),(4,.ptr 6 0)] [u.bx,.box [.bool (x5==t.names)],.map (ae (aa.int .i64) aa.bool pl),.box [.map 2],.map (ae (aa.int .i64) bB rw),.box [.map 4],t.bx] ?_ ?_
 refine qo ?_ ?_
 refine qr 5 ?_ ?_
 refine qY (dc (o:=4) (ek:=(aa.int .i64)) (ev:=bB) (l:=rw) (k:=(t.n)) (x:=t.names) dH kq pH ty3 rfl kq kq) ?_ ?_ ?_
 refine qe ?_ ?_
 refine aL (l:=[]) (.inl rfl) kq cP cP cP ?_ ?_
 refine Eq.trans (b:=[u.bx,.box [.bool (x5==t.names)],.map (ae (aa.int .i64) aa.bool pl),.box [.map 2],.map (ae (aa.int .i64) bB (aJ (t.n) t.names rw)),.box [.map 4]]) kq ?_
 · simp [hpV,bk,jy, *]
 rotate_left
 iterate 8 kernel_rfl
 refine qm [33,34] (Bool.eq_false_iff.2 hb7) ?_ ?_
 refine qR 10 [(3,.ptr 5 0),(4,.ptr 6 0)] [u.bx,.box [.bool false],.map (ae (aa.int .i64) aa.bool pl),.box [.map 2],.map (ae (aa.int .i64) bB rw),.box [.map 4],t.bx] ?_ ?_
 refine qo ?_ ?_
 refine qr 5 ?_ ?_
 refine qY (dc (o:=4) (ek:=(aa.int .i64)) (ev:=bB) (l:=rw) (k:=(t.n)) (x:=t.names) dH kq pH ty3 rfl kq kq) ?_ ?_ ?_
 refine qe ?_ ?_
 refine aL (l:=[]) (.inl rfl) kq cP cP cP ?_ ?_
 refine Eq.trans (b:=[u.bx,.box [.bool false],.map (ae (aa.int .i64) aa.bool pl),.box [.map 2],.map (ae (aa.int .i64) bB (aJ (t.n) t.names rw)),.box [.map 4]]) kq ?_
 · simp [hpV,bk,jy, *]
 rotate_left
 iterate 15 kernel_rfl
 refine qm [20,21] (beq_eq_false_iff_ne.2 hb3) ?_ ?_
 refine qR 4 [(1,.ptr 1 0),(3,.ptr 5 0),(4,.ptr 6 0),(25,.bool false)] [u.bx,.box [.bool (fmd t)],.map (ae (aa.int .i64) aa.bool pl),.box [.map 2],.map (ae (aa.int .i64) bB rw),.box [.map 4],t.bx] ?_ ?_
 refine dY kq kq ?_
 refine qk ?_ ?_
 refine aL (l:=[]) (.inl rfl) kq cP cP cP ?_ ?_
 refine Eq.trans (b:=[u.bx,.box [.bool (fmd t)],.map (ae (aa.int .i64) aa.bool pl),.box [.map 2],.map (ae (aa.int .i64) bB rw),.box [.map 4]]) kq ?_
 · simp [hpV,bk,jy, *]
 rotate_left
 iterate 9 kernel_rfl
 refine qm [7,8] (Bool.eq_false_iff.2 hb1) ?_ ?_
 refine qR 4 [(1,.ptr 1 0),(2,.ptr 3 0),(3,.ptr 5 0),(4,.ptr 6 0)] [u.bx,.box [.bool false],.map (ae (aa.int .i64) aa.bool pl),.box [.map 2],.map (ae (aa.int .i64) bB rw),.box [.map 4],t.bx] ?_ ?_
 refine qU 3 [(1,.ptr 1 0),(2,.ptr 3 0),(3,.ptr 5 0),(4,.ptr 6 0),(14,.bool ((t.kind)==6))] ?_ ?_
 by_cases hb8:(t.kind)=6
 refine qt (beq_iff_eq.2 hb8) ?_ ?_
 refine qo ?_ ?_
 refine qr 3 ?_ ?_
 refine qY (dc (o:=2) (ek:=(aa.int .i64)) (ev:=aa.bool) (l:=pl) (k:=(t.n)) (x:=true) dH kq Fl ty3 rfl kq kq) ?_ ?_ ?_
 refine qe ?_ ?_
 refine aL (l:=[]) (.inl rfl) kq cP cP cP ?_ ?_
 refine Eq.trans (b:=[u.bx,.box [.bool false],.map (ae (aa.int .i64) aa.bool (aJ (t.n) true pl)),.box [.map 2],.map (ae (aa.int .i64) bB rw),.box [.map 4]]) kq ?_
 · simp [hpV,bk,jy, *]
 rotate_left
 iterate 6 kernel_rfl
 refine qf (beq_eq_false_iff_ne.2 hb8) ?_ ?_
 refine qV 4 ?_ ?_
 by_cases hb9:(t.kind)=5
 refine qm [20,21] (beq_iff_eq.2 hb9) ?_ ?_
 refine qR 4 [(1,.ptr 1 0),(3,.ptr 5 0),(4,.ptr 6 0),(25,.bool ((t.n) != 0))] [u.bx,.box [.bool false],.map (ae (aa.int .i64) aa.bool pl),.box [.map 2],.map (ae (aa.int .i64) bB rw),.box [.map 4],t.bx] ?_ ?_
 by_cases hb10:(t.n)=0
 refine qf (x:=((t.n) != 0)) (bne_eq_false_iff_eq.2 hb10) ?_ ?_
 refine qk ?_ ?_
 refine aL (l:=[]) (.inl rfl) kq cP cP cP ?_ ?_
 refine Eq.trans (b:=[u.bx,.box [.bool false],.map (ae (aa.int .i64) aa.bool pl),.box [.map 2],.map (ae (aa.int .i64) bB rw),.box [.map 4]]) kq ?_
 · simp [hpV,bk,jy, *]
 rotate_left
 iterate 2 kernel_rfl
 refine qt (x:=((t.n) != 0)) (bne_iff_ne.2 hb10) ?_ ?_
 refine qV 3 ?_ ?_
 rcases hm11:am (t.n) rw with _|x11
 refine qy (e8 (ok:=true) (o:=4) (ek:=(aa.int .i64)) (ev:=bB) (l:=rw) (k:=(t.n)) dH hm11 kq pH ty3 rfl bi kq) ?_ ?_ ?_
 refine qR 5 [(1,.ptr 1 0),(3,.ptr 5 0),(4,.ptr 6 0),(5,.full []),(6,.bool false)] [u.bx,.box [.bool false],.map (ae (aa.int .i64) aa.bool pl),.box [.map 2],.map (ae (aa.int .i64) bB rw),.box [.map 4],t.bx] ?_ ?_
 refine qU 12 [(3,.ptr 5 0),(4,.ptr 6 0)] ?_ ?_
 refine qo ?_ ?_
 refine qr 5 ?_ ?_
 refine qY (dc (o:=4) (ek:=(aa.int .i64)) (ev:=bB) (l:=rw) (k:=(t.n)) (x:=t.names) dH kq pH ty3 rfl kq kq) ?_ ?_ ?_
 refine qe ?_ ?_
 refine aL (l:=[]) (.inl rfl) kq cP cP cP ?_ ?_
 refine Eq.trans (b:=[u.bx,.box [.bool false],.map (ae (aa.int .i64) aa.bool pl),.box [.map 2],.map (ae (aa.int .i64) bB (aJ (t.n) t.names rw)),.box [.map 4]]) kq ?_
 · simp [hpV,bk,jy, *]
 rotate_left
 iterate 9 kernel_rfl
 refine qy (cH (ok:=true) (o:=4) (ek:=(aa.int .i64)) (ev:=bB) (l:=rw) (k:=(t.n)) (x:=x11) dH hm11 kq pH ty3 rfl bi kq) ?_ ?_ ?_
 refine qR 5 [(1,.ptr 1 0),(3,.ptr 5 0),(4,.ptr 6 0),(5,.imm (x11.map aa.str)),(6,.bool true)] [u.bx,.box [.bool false],.map (ae (aa.int .i64) aa.bool pl),.box [.map 2],.map (ae (aa.int .i64) bB rw),.box [.map 4],t.bx] ?_ ?_
 refine qU 12 [(3,.ptr 5 0),(4,.ptr 6 0)] ?_ ?_
 refine qo ?_ ?_
 refine qr 5 ?_ ?_
 refine qY (dc (o:=4) (ek:=(aa.int .i64)) (ev:=bB) (l:=rw) (k:=(t.n)) (x:=t.names) dH kq pH ty3 rfl kq kq) ?_ ?_ ?_
 refine qe ?_ ?_
 refine aL (l:=[]) (.inl rfl) kq cP cP cP ?_ ?_
 refine Eq.trans (b:=[u.bx,.box [.bool false],.map (ae (aa.int .i64) aa.bool pl),.box [.map 2],.map (ae (aa.int .i64) bB (aJ (t.n) t.names rw)),.box [.map 4]]) kq ?_
 · simp [hpV,bk,jy, *]
 rotate_left
 iterate 13 kernel_rfl
 refine qm [20,21] (beq_eq_false_iff_ne.2 hb9) ?_ ?_
 refine qR 4 [(1,.ptr 1 0),(3,.ptr 5 0),(4,.ptr 6 0),(25,.bool false)] [u.bx,.box [.bool false],.map (ae (aa.int .i64) aa.bool pl),.box [.map 2],.map (ae (aa.int .i64) bB rw),.box [.map 4],t.bx] ?_ ?_
 refine dY kq kq ?_
 refine qk ?_ ?_
 refine aL (l:=[]) (.inl rfl) kq cP cP cP ?_ ?_
 refine Eq.trans (b:=[u.bx,.box [.bool false],.map (ae (aa.int .i64) aa.bool pl),.box [.map 2],.map (ae (aa.int .i64) bB rw),.box [.map 4]]) kq ?_
 · simp [hpV,bk,jy, *]
 rotate_left
 iterate 11 kernel_rfl
 all_goals
  simp [ai.belO,hpV,Ty.v]
mutual
def bA:VSt→Ty→VSt
 | s,.mk k x n l ks=>if k=5 then bk (aU s ks) (.mk k x n l ks) else aU (bk s (.mk k x n l ks)) ks
def aU:VSt→List Ty→VSt
 | s,[]=>s
 | s,t::l=>aU (bA s t) l
end
theorem vW (s:VSt) (t:Ty) (h:t.kind=5):bA s t=bk (aU s t.kids) t:=by cases t;simp only [Ty.kind] at h;simp only [bA,if_pos h,Ty.kids]
theorem vr (s:VSt) (t:Ty) (h:¬ t.kind=5):bA s t=aU (bk s t) t.kids:=by cases t;simp only [Ty.kind] at h;simp only [bA,if_neg h,Ty.kids]
theorem qS (t:Ty):∀ (l:List Ty) (s:VSt),aU s (l++[t])=bA (aU s l) t
 | [],s=>rfl
 | x::l,s=>by simp only [List.cons_append,aU,qS t l]
theorem e7 (l:List Ty) (k:Nat) (h:k<l.length):l.take (k+1)=l.take k++[l.getD k Ty.zero]:=by
 rw [List.take_succ_eq_append_getElem h,List.getD_eq_getElem?_getD,List.getElem?_eq_getElem h];rfl
theorem yQ (s:VSt) (l:List Ty) (k:Nat) (h:k<l.length):aU s (l.take (k+1))=bA (aU s (l.take k)) (l.getD k Ty.zero):=by
 rw [e7 l k h,qS]
theorem bE {κ α:Type} [DecidableEq κ] (k k':κ) (v:α):∀ l:List (κ×α),am k (aJ k' v l)=if k=k' then some v else am k l
 | []=>by simp [aJ,am]
 | p::l=>by
  simp only [aJ]
  by_cases e:k'=p.1
  · rw [if_pos e];simp only [am]
    by_cases e2:k=k'
    · rw [if_pos e2,if_pos e2]
    · rw [if_neg e2,if_neg e2,if_neg (by rw [← e];exact e2)]
  · rw [if_neg e];simp only [am,bE k k' v l]
    by_cases e2:k=p.1
    · rw [if_pos e2,if_pos e2,if_neg (by rintro rfl;exact e e2)]
    · rw [if_neg e2,if_neg e2]
theorem vf {s:VSt} (hs:s.sm) {t:Ty} (ht:t.sz<100000000):(bk s t).sm:=by
 intro k l h
 unfold bk at h
 split at h
 · exact hs k l h
 · split at h
   · simp only [bE] at h
     split at h
     · cases h;have:=bK t;omega
     · exact hs k l h
   · exact hs k l h
mutual
theorem GT:∀ (t:Ty) (s:VSt),s.sm→t.sz<100000000→(bA s t).sm
 | .mk k x n l ks,s,hs,ht=>by
  have hk:Ty.szL ks<100000000:=by simp only [Ty.sz] at ht;omega
  simp only [bA]
  split
  · exact vf (oU ks s hs hk) ht
  · exact oU ks _ (vf hs ht) hk
theorem oU:∀ (l:List Ty) (s:VSt),s.sm→Ty.szL l<100000000→(aU s l).sm
 | [],s,hs,_=>hs
 | t::l,s,hs,ht=>by
  simp only [Ty.szL] at ht
  exact oU l _ (GT t s hs oq) oq
end
theorem ie:∀ (l:List Ty) (k:Nat),Ty.szL (l.take k)≤Ty.szL l
 | [],k=>by simp
 | t::l,0=>by simp [Ty.szL]
 | t::l,k+1=>by have:=ie l k;simp only [List.take_succ_cons,Ty.szL];omega
theorem uj (t:Ty) (s:VSt) (k:Nat) (hs:s.sm) (ht:t.sz<100000000):(aU s (t.kids.take k)).sm:=oU _ _ hs (by have:=ie t.kids k;have:=gP t;omega)
theorem oe (t u:Ty) (s:VSt) (hs:t.sz<100000000) (hm:s.sm):av cx 55 [t.v,.ptr 1 0,.ptr 3 0,.ptr 5 0] (hpV u s) (fun v h=>v=.tup []∧h=hpV u (bk s t)):=zI t u s.ok s.pl s.rw hs hm
noncomputable def c54:Code:=aE Tryz.f54
theorem kT {p:Prop} (h:p:=by simp [ai.belO,hpV,Ty.v]):p:=h
theorem IU {p:Prop} (h:p:=by exact congrArg (fun q=>hpV u q++[.box [.int .i64 t.kind,.str t.name,.int .i64 t.n,.imm (t.names.map .str),.imm (t.kids.map Ty.enc)]]) (yQ _ t.kids k oq).symm):p:=h
theorem wQ (t u:Ty) (s:VSt) (hs:t.sz<100000000) (hm:s.sm):av cx 54 [Ty.v t,.fn (.func 55) [] [.ptr 1 0,.ptr 3 0,.ptr 5 0]] (hpV u s) (fun v h=>v=(.tup [])∧h=hpV u (bA s t)):=by
 induction hN:t.sz using Nat.strongRecOn generalizing t u s with|_ N ih =>
 have ihV:∀ (t' u:Ty) (s:VSt),t'.sz<t.sz→t'.sz<100000000→s.sm→av cx 54 [t'.v,.fn (.func 55) [] [.ptr 1 0,.ptr 3 0,.ptr 5 0]] (hpV u s) (fun v h=>v=.tup []∧h=hpV u (bA s t')):=fun t' u s h1 h2 h3=>ih _ (by rw [← hN];exact h1) t' u s h2 h3 rfl
 have hz2:=ct t
 refine ap (cx:=cx) 29 6 [] Tryz.func54 rfl rfl rfl rfl rfl zq ?_
 show wpA cx 29 6 (at_ c54 []) _ _ _
 refine qZ [(0,Ty.v t),(1,.fn (.func 55) [] [.ptr 1 0,.ptr 3 0,.ptr 5 0])] [u.bx,.box [.bool (s.ok)],.map (ae (aa.int .i64) aa.bool s.pl),.box [.map 2],.map (ae (aa.int .i64) bB s.rw),.box [.map 4]] ?_ ?_
 refine qW 1 [(1,.fn (.func 55) [] [.ptr 1 0,.ptr 3 0,.ptr 5 0]),(2,.ptr 6 0)] [u.bx,.box [.bool (s.ok)],.map (ae (aa.int .i64) aa.bool s.pl),.box [.map 2],.map (ae (aa.int .i64) bB s.rw),.box [.map 4],t.bx] ?_ ?_
 refine ar ?_ ?_
 refine qU 3 [(1,.fn (.func 55) [] [.ptr 1 0,.ptr 3 0,.ptr 5 0]),(2,.ptr 6 0),(8,.bool ((t.kind) != 5))] ?_ ?_
 by_cases hb1:(t.kind)=5
 refine qf (x:=((t.kind) != 5)) (bne_eq_false_iff_eq.2 hb1) ?_ ?_
 refine qK ?_ ?_
 refine qz [(1,.fn (.func 55) [] [.ptr 1 0,.ptr 3 0,.ptr 5 0]),(2,.ptr 6 0)] ?_ ?_
 refine ar ?_ ?_
 refine qV 2 ?_ ?_
 refine qy (au (l:=t.kids) (enc:=Ty.enc) kq bf) ?_ ?_ ?_
 refine qR 1 [(1,.fn (.func 55) [] [.ptr 1 0,.ptr 3 0,.ptr 5 0]),(2,.ptr 6 0),(13,.imm (t.kids.map Ty.enc)),(14,nI t.kids.length),(15,.int .i64 0)] [u.bx,.box [.bool (s.ok)],.map (ae (aa.int .i64) aa.bool s.pl),.box [.map 2],.map (ae (aa.int .i64) bB s.rw),.box [.map 4],t.bx] ?_ ?_
 refine qB 0 ?_ ?_ ?_
 refine bR (σ:=Nat) (fun k=>[(1,.fn (.func 55) [] [.ptr 1 0,.ptr 3 0,.ptr 5 0]),(2,.ptr 6 0),(13,.imm (t.kids.map Ty.enc)),(14,.int .i64 ((t.kids.length:Nat):Int)),(15,.int .i64 ((k:Nat):Int))]) (fun k=>[u.bx,.box [.bool ((aU s (t.kids.take k)).ok)],.map (ae (aa.int .i64) aa.bool (aU s (t.kids.take k)).pl),.box [.map 2],.map (ae (aa.int .i64) bB (aU s (t.kids.take k)).rw),.box [.map 4],t.bx]) (fun k=>k≤t.kids.length) (fun k=>t.kids.length - k) 0 kq (by exact Nat.zero_le _) ⟨⟨kq,kq,kq,kq,kq,trivial⟩,by simp [aV,aa.bel],by simp,kq,by simp [ai.belO]⟩ ?_
 rintro k hk
 refine qW 1 [(1,.fn (.func 55) [] [.ptr 1 0,.ptr 3 0,.ptr 5 0]),(2,.ptr 6 0),(13,.imm (t.kids.map Ty.enc)),(14,nI t.kids.length),(15,nI k),(16,.bool (decide (((k:Nat):Int)<((t.kids.length:Nat):Int))))] [u.bx,.box [.bool ((aU s (t.kids.take k)).ok)],.map (ae (aa.int .i64) aa.bool (aU s (t.kids.take k)).pl),.box [.map 2],.map (ae (aa.int .i64) bB (aU s (t.kids.take k)).rw),.box [.map 4],t.bx] ?_ ?_
 refine ar ?_ ?_
 by_cases hb2:((k:Nat):Int)<((t.kids.length:Nat):Int)
 refine qt (decide_eq_true hb2) ?_ ?_
 refine qK ?_ ?_
 refine qz [(1,.fn (.func 55) [] [.ptr 1 0,.ptr 3 0,.ptr 5 0]),(2,.ptr 6 0),(13,.imm (t.kids.map Ty.enc)),(14,nI t.kids.length),(15,nI k)] ?_ ?_
 refine ar ?_ ?_
 refine qB 1 ?_ ?_ ?_
 refine qO ?_ ?_
 refine qy ((ax (k:=.i64) (l:=t.kids) (enc:=Ty.enc) (i:=((k:Nat):Int)) Ty.zero kq bf bX bg oq oq).trans (congrArg (fun cs=>some (aa.pimm cs 0,_)) (aO (t.kids.getD k Ty.zero)))) ?_ ?_ ?_
 refine qR 3 [(1,.fn (.func 55) [] [.ptr 1 0,.ptr 3 0,.ptr 5 0]),(2,.ptr 6 0),(5,.ptr 7 0),(13,.imm (t.kids.map Ty.enc)),(14,nI t.kids.length),(15,nI k)] [u.bx,.box [.bool ((aU s (t.kids.take k)).ok)],.map (ae (aa.int .i64) aa.bool (aU s (t.kids.take k)).pl),.box [.map 2],.map (ae (aa.int .i64) bB (aU s (t.kids.take k)).rw),.box [.map 4],t.bx,(t.kids.getD k Ty.zero).bx] ?_ ?_
 refine qo ?_ ?_
 refine qr 2 ?_ ?_
 refine aT (args:=[.agg [.int .i64 ((t.kids.getD k Ty.zero).kind),.str (t.kids.getD k Ty.zero).name,.int .i64 ((t.kids.getD k Ty.zero).n),.imm ((t.kids.getD k Ty.zero).names.map aa.str),.imm ((t.kids.getD k Ty.zero).kids.map Ty.enc)],.fn (.func 55) [] [.ptr 1 0,.ptr 3 0,.ptr 5 0]]) (hs:=[u.bx,.box [.bool ((aU s (t.kids.take k)).ok)],.map (ae (aa.int .i64) aa.bool (aU s (t.kids.take k)).pl),.box [.map 2],.map (ae (aa.int .i64) bB (aU s (t.kids.take k)).rw),.box [.map 4]]) (hs':=[u.bx,.box [.bool ((bA (aU s (t.kids.take k)) (t.kids.getD k Ty.zero)).ok)],.map (ae (aa.int .i64) aa.bool (bA (aU s (t.kids.take k)) (t.kids.getD k Ty.zero)).pl),.box [.map 2],.map (ae (aa.int .i64) bB (bA (aU s (t.kids.take k)) (t.kids.getD k Ty.zero)).rw),.box [.map 4]]) (aM:=[t.bx,(t.kids.getD k Ty.zero).bx]) kq kq kq kq kq (ihV (t.kids.getD k Ty.zero) u (aU s (t.kids.take k)) (b9 t k oq) (Nat.lt_trans (b9 t k oq) hs) (uj t _ _ hm hs)) kT kT rfl kT kT kq ?_
 refine qe ?_ ?_
 refine ak ?_
 refine ab ?_
 refine qZ [(1,.fn (.func 55) [] [.ptr 1 0,.ptr 3 0,.ptr 5 0]),(2,.ptr 6 0),(13,.imm (t.kids.map Ty.enc)),(14,nI t.kids.length),(15,nI k)] [u.bx,.box [.bool ((bA (aU s (t.kids.take k)) (t.kids.getD k Ty.zero)).ok)],.map (ae (aa.int .i64) aa.bool (bA (aU s (t.kids.take k)) (t.kids.getD k Ty.zero)).pl),.box [.map 2],.map (ae (aa.int .i64) bB (bA (aU s (t.kids.take k)) (t.kids.getD k Ty.zero)).rw),.box [.map 4],t.bx,(t.kids.getD k Ty.zero).bx] ?_ ?_
 refine qo ?_ ?_
 refine qy (aN (a:=((k:Nat):Int)) (b:=1) kq oq oq) ?_ ?_ ?_
 refine qr 1 ?_ ?_
 refine qe ?_ ?_
 refine ab ⟨k+1,?_,?_,⟨⟨kq,kq,kq,kq,kq,trivial⟩,by simp [aV,aa.bel],by simp,(Eq.trans (b:=[u.bx,.box [.bool ((bA (aU s (t.kids.take k)) (t.kids.getD k Ty.zero)).ok)],.map (ae (aa.int .i64) aa.bool (bA (aU s (t.kids.take k)) (t.kids.getD k Ty.zero)).pl),.box [.map 2],.map (ae (aa.int .i64) bB (bA (aU s (t.kids.take k)) (t.kids.getD k Ty.zero)).rw),.box [.map 4],t.bx]) kq IU),by simp [ai.belO]⟩⟩
 · omega
 · omega
 iterate 19 kernel_rfl
 refine qf (decide_eq_false hb2) ?_ ?_
 refine bC 0 kq kq ?_
 refine af ?_
 refine af ?_
 refine aA ?_
 refine ab ?_
 refine qz [(1,.fn (.func 55) [] [.ptr 1 0,.ptr 3 0,.ptr 5 0]),(2,.ptr 6 0)] ?_ ?_
 refine qU 3 [(1,.fn (.func 55) [] [.ptr 1 0,.ptr 3 0,.ptr 5 0]),(2,.ptr 6 0),(25,.bool ((t.kind)==5))] ?_ ?_
 refine qt (beq_iff_eq.2 hb1) ?_ ?_
 refine qo ?_ ?_
 refine qr 2 ?_ ?_
 refine aT (args:=[.agg [.int .i64 (t.kind),.str t.name,.int .i64 (t.n),.imm (t.names.map aa.str),.imm (t.kids.map Ty.enc)],.ptr 1 0,.ptr 3 0,.ptr 5 0]) (hs:=[u.bx,.box [.bool ((aU s (t.kids.take k)).ok)],.map (ae (aa.int .i64) aa.bool (aU s (t.kids.take k)).pl),.box [.map 2],.map (ae (aa.int .i64) bB (aU s (t.kids.take k)).rw),.box [.map 4]]) (hs':=[u.bx,.box [.bool ((bk (aU s (t.kids.take k)) t).ok)],.map (ae (aa.int .i64) aa.bool (bk (aU s (t.kids.take k)) t).pl),.box [.map 2],.map (ae (aa.int .i64) bB (bk (aU s (t.kids.take k)) t).rw),.box [.map 4]]) (aM:=[t.bx]) kq kq kq kq kq (oe t u (aU s (t.kids.take k)) oq (uj t _ _ hm hs)) kT kT rfl kT kT kq ?_
 refine qe ?_ ?_
 refine aL (l:=[]) (.inl rfl) kq cP cP cP ?_ ?_
 refine Eq.trans (b:=[u.bx,.box [.bool ((bk (aU s (t.kids.take k)) t).ok)],.map (ae (aa.int .i64) aa.bool (bk (aU s (t.kids.take k)) t).pl),.box [.map 2],.map (ae (aa.int .i64) bB (bk (aU s (t.kids.take k)) t).rw),.box [.map 4]]) kq ?_
 rotate_left
 · simp [ai.belO,hpV,Ty.v]
 iterate 19 kernel_rfl
 refine qt (x:=((t.kind) != 5)) (bne_iff_ne.2 hb1) ?_ ?_
 refine qo ?_ ?_
 refine qr 2 ?_ ?_
 refine aT (args:=[.agg [.int .i64 (t.kind),.str t.name,.int .i64 (t.n),.imm (t.names.map aa.str),.imm (t.kids.map Ty.enc)],.ptr 1 0,.ptr 3 0,.ptr 5 0]) (hs:=[u.bx,.box [.bool (s.ok)],.map (ae (aa.int .i64) aa.bool s.pl),.box [.map 2],.map (ae (aa.int .i64) bB s.rw),.box [.map 4]]) (hs':=[u.bx,.box [.bool ((bk s t).ok)],.map (ae (aa.int .i64) aa.bool (bk s t).pl),.box [.map 2],.map (ae (aa.int .i64) bB (bk s t).rw),.box [.map 4]]) (aM:=[t.bx]) kq kq kq kq kq (oe t u s oq hm) kT kT rfl kT kT kq ?_
 refine qN [(1,.fn (.func 55) [] [.ptr 1 0,.ptr 3 0,.ptr 5 0]),(2,.ptr 6 0)] [u.bx,.box [.bool ((bk s t).ok)],.map (ae (aa.int .i64) aa.bool (bk s t).pl),.box [.map 2],.map (ae (aa.int .i64) bB (bk s t).rw),.box [.map 4],t.bx] ?_ ?_
 refine ar ?_ ?_
 refine qV 2 ?_ ?_
 refine qy (au (l:=t.kids) (enc:=Ty.enc) kq bf) ?_ ?_ ?_
 refine qR 1 [(1,.fn (.func 55) [] [.ptr 1 0,.ptr 3 0,.ptr 5 0]),(2,.ptr 6 0),(13,.imm (t.kids.map Ty.enc)),(14,nI t.kids.length),(15,.int .i64 0)] [u.bx,.box [.bool ((bk s t).ok)],.map (ae (aa.int .i64) aa.bool (bk s t).pl),.box [.map 2],.map (ae (aa.int .i64) bB (bk s t).rw),.box [.map 4],t.bx] ?_ ?_
 refine qB 0 ?_ ?_ ?_
 refine bR (σ:=Nat) (fun k=>[(1,.fn (.func 55) [] [.ptr 1 0,.ptr 3 0,.ptr 5 0]),(2,.ptr 6 0),(13,.imm (t.kids.map Ty.enc)),(14,.int .i64 ((t.kids.length:Nat):Int)),(15,.int .i64 ((k:Nat):Int))]) (fun k=>[u.bx,.box [.bool ((aU (bk s t) (t.kids.take k)).ok)],.map (ae (aa.int .i64) aa.bool (aU (bk s t) (t.kids.take k)).pl),.box [.map 2],.map (ae (aa.int .i64) bB (aU (bk s t) (t.kids.take k)).rw),.box [.map 4],t.bx]) (fun k=>k≤t.kids.length) (fun k=>t.kids.length - k) 0 kq (by exact Nat.zero_le _) ⟨⟨kq,kq,kq,kq,kq,trivial⟩,by simp [aV,aa.bel],by simp,kq,by simp [ai.belO]⟩ ?_
 rintro k hk
 refine qW 1 [(1,.fn (.func 55) [] [.ptr 1 0,.ptr 3 0,.ptr 5 0]),(2,.ptr 6 0),(13,.imm (t.kids.map Ty.enc)),(14,nI t.kids.length),(15,nI k),(16,.bool (decide (((k:Nat):Int)<((t.kids.length:Nat):Int))))] [u.bx,.box [.bool ((aU (bk s t) (t.kids.take k)).ok)],.map (ae (aa.int .i64) aa.bool (aU (bk s t) (t.kids.take k)).pl),.box [.map 2],.map (ae (aa.int .i64) bB (aU (bk s t) (t.kids.take k)).rw),.box [.map 4],t.bx] ?_ ?_
 refine ar ?_ ?_
 by_cases hb4:((k:Nat):Int)<((t.kids.length:Nat):Int)
 refine qt (decide_eq_true hb4) ?_ ?_
 refine qK ?_ ?_
 refine qz [(1,.fn (.func 55) [] [.ptr 1 0,.ptr 3 0,.ptr 5 0]),(2,.ptr 6 0),(13,.imm (t.kids.map Ty.enc)),(14,nI t.kids.length),(15,nI k)] ?_ ?_
 refine ar ?_ ?_
 refine qB 1 ?_ ?_ ?_
 refine qO ?_ ?_
 refine qy ((ax (k:=.i64) (l:=t.kids) (enc:=Ty.enc) (i:=((k:Nat):Int)) Ty.zero kq bf bX bg oq oq).trans (congrArg (fun cs=>some (aa.pimm cs 0,_)) (aO (t.kids.getD k Ty.zero)))) ?_ ?_ ?_
 refine qR 3 [(1,.fn (.func 55) [] [.ptr 1 0,.ptr 3 0,.ptr 5 0]),(2,.ptr 6 0),(5,.ptr 7 0),(13,.imm (t.kids.map Ty.enc)),(14,nI t.kids.length),(15,nI k)] [u.bx,.box [.bool ((aU (bk s t) (t.kids.take k)).ok)],.map (ae (aa.int .i64) aa.bool (aU (bk s t) (t.kids.take k)).pl),.box [.map 2],.map (ae (aa.int .i64) bB (aU (bk s t) (t.kids.take k)).rw),.box [.map 4],t.bx,(t.kids.getD k Ty.zero).bx] ?_ ?_
 refine qo ?_ ?_
 refine qr 2 ?_ ?_
 refine aT (args:=[.agg [.int .i64 ((t.kids.getD k Ty.zero).kind),.str (t.kids.getD k Ty.zero).name,.int .i64 ((t.kids.getD k Ty.zero).n),.imm ((t.kids.getD k Ty.zero).names.map aa.str),.imm ((t.kids.getD k Ty.zero).kids.map Ty.enc)],.fn (.func 55) [] [.ptr 1 0,.ptr 3 0,.ptr 5 0]]) (hs:=[u.bx,.box [.bool ((aU (bk s t) (t.kids.take k)).ok)],.map (ae (aa.int .i64) aa.bool (aU (bk s t) (t.kids.take k)).pl),.box [.map 2],.map (ae (aa.int .i64) bB (aU (bk s t) (t.kids.take k)).rw),.box [.map 4]]) (hs':=[u.bx,.box [.bool ((bA (aU (bk s t) (t.kids.take k)) (t.kids.getD k Ty.zero)).ok)],.map (ae (aa.int .i64) aa.bool (bA (aU (bk s t) (t.kids.take k)) (t.kids.getD k Ty.zero)).pl),.box [.map 2],.map (ae (aa.int .i64) bB (bA (aU (bk s t) (t.kids.take k)) (t.kids.getD k Ty.zero)).rw),.box [.map 4]]) (aM:=[t.bx,(t.kids.getD k Ty.zero).bx]) kq kq kq kq kq (ihV (t.kids.getD k Ty.zero) u (aU (bk s t) (t.kids.take k)) (b9 t k oq) (Nat.lt_trans (b9 t k oq) hs) (uj t _ _ (vf hm hs) hs)) kT kT rfl kT kT kq ?_
 refine qe ?_ ?_
 refine ak ?_
 refine ab ?_
 refine qZ [(1,.fn (.func 55) [] [.ptr 1 0,.ptr 3 0,.ptr 5 0]),(2,.ptr 6 0),(13,.imm (t.kids.map Ty.enc)),(14,nI t.kids.length),(15,nI k)] [u.bx,.box [.bool ((bA (aU (bk s t) (t.kids.take k)) (t.kids.getD k Ty.zero)).ok)],.map (ae (aa.int .i64) aa.bool (bA (aU (bk s t) (t.kids.take k)) (t.kids.getD k Ty.zero)).pl),.box [.map 2],.map (ae (aa.int .i64) bB (bA (aU (bk s t) (t.kids.take k)) (t.kids.getD k Ty.zero)).rw),.box [.map 4],t.bx,(t.kids.getD k Ty.zero).bx] ?_ ?_
 refine qo ?_ ?_
 refine qy (aN (a:=((k:Nat):Int)) (b:=1) kq oq oq) ?_ ?_ ?_
 refine qr 1 ?_ ?_
 refine qe ?_ ?_
 refine ab ⟨k+1,?_,?_,⟨⟨kq,kq,kq,kq,kq,trivial⟩,by simp [aV,aa.bel],by simp,(Eq.trans (b:=[u.bx,.box [.bool ((bA (aU (bk s t) (t.kids.take k)) (t.kids.getD k Ty.zero)).ok)],.map (ae (aa.int .i64) aa.bool (bA (aU (bk s t) (t.kids.take k)) (t.kids.getD k Ty.zero)).pl),.box [.map 2],.map (ae (aa.int .i64) bB (bA (aU (bk s t) (t.kids.take k)) (t.kids.getD k Ty.zero)).rw),.box [.map 4],t.bx]) kq IU),by simp [ai.belO]⟩⟩
 · omega
 · omega
 iterate 19 kernel_rfl
 refine qf (decide_eq_false hb4) ?_ ?_
 refine bC 0 kq kq ?_
 refine af ?_
 refine af ?_
 refine aA ?_
 refine ab ?_
 refine qz [(1,.fn (.func 55) [] [.ptr 1 0,.ptr 3 0,.ptr 5 0]),(2,.ptr 6 0)] ?_ ?_
 refine qU 3 [(1,.fn (.func 55) [] [.ptr 1 0,.ptr 3 0,.ptr 5 0]),(2,.ptr 6 0),(25,.bool ((t.kind)==5))] ?_ ?_
 refine qf (beq_eq_false_iff_ne.2 hb1) ?_ ?_
 refine qk ?_ ?_
 refine aL (l:=[]) (.inl rfl) kq cP cP cP ?_ ?_
 refine Eq.trans (b:=[u.bx,.box [.bool ((aU (bk s t) (t.kids.take k)).ok)],.map (ae (aa.int .i64) aa.bool (aU (bk s t) (t.kids.take k)).pl),.box [.map 2],.map (ae (aa.int .i64) bB (aU (bk s t) (t.kids.take k)).rw),.box [.map 4]]) kq ?_
 rotate_left
 · simp [ai.belO,hpV,Ty.v]
 iterate 22 kernel_rfl
 all_goals
  refine congrArg (hpV u) ?_
  first|rw [vr s t aq,List.take_of_length_le oq]|rw [vW s t aq,List.take_of_length_le oq]
def VSt.init:VSt:=⟨true,[],[]⟩
theorem Fh:VSt.init.sm:=fun k l h=>by simp [VSt.init,am] at h
def CB (s:VSt) (j:Nat):Bool:=(am (s.rw.getD j ((0:Int),([]:List (List UInt8)))).1 s.pl).getD false
def okL (s:VSt) (lf:List Nat):Bool:=s.ok && (List.range s.rw.length).all fun j=>lf.contains j || !(CB s j)
theorem Dm (s:VSt):okL s (List.range s.rw.length)=s.ok:=by
 have:((List.range s.rw.length).all fun j=>(List.range s.rw.length).contains j || !(CB s j))=true:=by
  rw [List.all_eq_true];intro j hj;rw [List.contains_iff_mem.2 hj];rfl
 rw [okL,this,Bool.and_true]
theorem qv (s:VSt) (lf:List Nat) (i:Nat) (hi:i∈lf) (hlt:i<s.rw.length):okL s (lf.filter (fun j=>!(Nat.beq j i)))=(okL s lf && !(CB s i)):=by
 rw [Bool.eq_iff_iff]
 simp only [okL,Bool.and_eq_true,List.all_eq_true,Bool.or_eq_true,List.contains_iff_mem,List.mem_filter,List.mem_range,Bool.not_eq_true']
 constructor
 · rintro ⟨h1,h2⟩
   refine ⟨⟨h1,fun j hj=>?_⟩,?_⟩
   · rcases h2 j hj with h|h
     · exact .inl h.1
     · exact .inr h
   · rcases h2 i hlt with h|h
     · have:=h.2;rw [Nat.beq_refl] at this;cases this
     · exact h
 · rintro ⟨⟨h1,h2⟩,h3⟩
   refine ⟨h1,fun j hj=>?_⟩
   by_cases e:j=i
   · subst e;exact .inr h3
   · rcases h2 j hj with h|h
     · exact .inl ⟨h,nbf e⟩
     · exact .inr h
theorem BB (lf:List Nat) (i:Nat) (hi:i∈lf):(lf.filter (fun j=>!(Nat.beq j i))).length<lf.length:=by
 rcases Nat.lt_or_ge (lf.filter (fun j=>!(Nat.beq j i))).length lf.length with h|h
 · exact h
 · have he:lf.filter (fun j=>!(Nat.beq j i))=lf:=List.Sublist.eq_of_length_le List.filter_sublist h
   rw [← he] at hi
   have:=(List.mem_filter.1 hi).2
   rw [Nat.beq_refl] at this;cases this
theorem H5 {s:VSt} {lf:List Nat} {i:Nat} (hi:i∈lf) (hlt:i<s.rw.length) (hm:am (s.rw.getD i ((0:Int),([]:List (List UInt8)))).1 s.pl=none):okL s (lf.filter (fun j=>!(Nat.beq j i)))=okL s lf:=by
 rw [qv s lf i hi hlt,CB,hm];simp
theorem Iv {s:VSt} {lf:List Nat} {i:Nat} {b:Bool} (hi:i∈lf) (hlt:i<s.rw.length) (hm:am (s.rw.getD i ((0:Int),([]:List (List UInt8)))).1 s.pl=some b):okL s (lf.filter (fun j=>!(Nat.beq j i)))=(okL s lf && !b):=by
 rw [qv s lf i hi hlt,CB,hm];simp
theorem HU {s:VSt} {lf:List Nat} {i:Nat} (hi:i∈lf) (hlt:i<s.rw.length) (h:¬ okL s lf=true):okL s (lf.filter (fun j=>!(Nat.beq j i)))=false:=by
 rw [qv s lf i hi hlt,Bool.eq_false_iff.2 h];rfl
def cO (t:Ty):Bool:=okL (bA VSt.init t) []
noncomputable def c14:Code:=aE Tryz.f14
theorem G8 {p:Prop} (h:p:=by (try dsimp only);first|(rw [HU hii1 hlti1 aq];done)|(rw [H5 hii1 hlti1 aq];simp only [*];done)|(rw [Iv hii1 hlti1 aq];simp only [*];simp;done)):p:=h
theorem Fa {p:Prop} (h:p:=by simp [ai.belO,hpV,Ty.v]):p:=h
theorem jW (t:Ty) (hs:t.sz<100000000):ay cx 14 [Ty.v t] (.bool (cO t)):=by
 refine ap (cx:=cx) 26 0 [(ResultVar.tmp 2)] Tryz.func14 rfl rfl rfl rfl rfl zq ?_
 show wpA cx 26 0 (at_ c14 []) _ _ _
 refine qZ [(0,Ty.v t)] [] ?_ ?_
 refine qW 2 [(1,.ptr 0 0)] [t.bx] ?_ ?_
 refine qW 2 [(1,.ptr 0 0),(3,.ptr 1 0)] [t.bx,.box [.bool true]] ?_ ?_
 refine qW 3 [(1,.ptr 0 0),(3,.ptr 1 0),(4,.ptr 3 0)] [t.bx,.box [.bool true],.map (ae (aa.int .i64) aa.bool ([]:List (Int×Bool))),.box [.map 2]] ?_ ?_
 refine qW 3 [(1,.ptr 0 0),(3,.ptr 1 0),(4,.ptr 3 0),(5,.ptr 5 0)] [t.bx,.box [.bool true],.map (ae (aa.int .i64) aa.bool ([]:List (Int×Bool))),.box [.map 2],.map (ae (aa.int .i64) bB ([]:List (Int×List (List UInt8)))),.box [.map 4]] ?_ ?_
 refine qV 2 ?_ ?_
 refine aT (args:=[.agg [.int .i64 (t.kind),.str t.name,.int .i64 (t.n),.imm (t.names.map aa.str),.imm (t.kids.map Ty.enc)],.fn (.func 55) [] [.ptr 1 0,.ptr 3 0,.ptr 5 0]]) (hs:=[t.bx,.box [.bool true],.map (ae (aa.int .i64) aa.bool ([]:List (Int×Bool))),.box [.map 2],.map (ae (aa.int .i64) bB ([]:List (Int×List (List UInt8)))),.box [.map 4]]) (hs':=[t.bx,.box [.bool ((bA VSt.init t).ok)],.map (ae (aa.int .i64) aa.bool (bA VSt.init t).pl),.box [.map 2],.map (ae (aa.int .i64) bB (bA VSt.init t).rw),.box [.map 4]]) (aM:=[]) kq kq kq kq kq (wQ t t VSt.init oq Fh) Fa Fa rfl Fa Fa kq ?_
 refine qN [(3,.ptr 1 0),(4,.ptr 3 0),(5,.ptr 5 0)] [t.bx,.box [.bool ((bA VSt.init t).ok)],.map (ae (aa.int .i64) aa.bool (bA VSt.init t).pl),.box [.map 2],.map (ae (aa.int .i64) bB (bA VSt.init t).rw),.box [.map 4]] ?_ ?_
 refine ar ?_ ?_
 refine qV 1 ?_ ?_
 refine GW (ek:=(aa.int .i64)) (ev:=bB) (l:=(bA VSt.init t).rw) (m:=4) kq kq kq pH kq ?_
 refine qN [(3,.ptr 1 0),(4,.ptr 3 0),(13,.itr 6)] [t.bx,.box [.bool ((bA VSt.init t).ok)],.map (ae (aa.int .i64) aa.bool (bA VSt.init t).pl),.box [.map 2],.map (ae (aa.int .i64) bB (bA VSt.init t).rw),.box [.map 4],.iter 4 ((List.range (bA VSt.init t).rw.length),none)] ?_ ?_
 refine qB 0 ?_ ?_ ?_
 refine bR (σ:=(List Nat×Option Nat)) (fun ⟨lf,la⟩=>[(3,.ptr 1 0),(4,.ptr 3 0),(13,.itr 6)]) (fun ⟨lf,la⟩=>[t.bx,.box [.bool (okL (bA VSt.init t) lf)],.map (ae (aa.int .i64) aa.bool (bA VSt.init t).pl),.box [.map 2],.map (ae (aa.int .i64) bB (bA VSt.init t).rw),.box [.map 4],.iter 4 (lf,la)]) (fun ⟨lf,la⟩=>True) (fun ⟨lf,la⟩=>lf.length) (List.range (bA VSt.init t).rw.length,none) kq (by trivial) ⟨⟨kq,kq,kq,trivial⟩,by simp [aV,aa.bel],by simp,(Eq.trans (b:=[t.bx,.box [.bool ((bA VSt.init t).ok)],.map (ae (aa.int .i64) aa.bool (bA VSt.init t).pl),.box [.map 2],.map (ae (aa.int .i64) bB (bA VSt.init t).rw),.box [.map 4],.iter 4 ((List.range (bA VSt.init t).rw.length),none)]) kq (by (try dsimp only);rw [Dm])),by simp [ai.belO]⟩ ?_
 rintro ⟨lf,la⟩ _
 refine qZ [(3,.ptr 1 0),(4,.ptr 3 0),(13,.itr 6)] [t.bx,.box [.bool (okL (bA VSt.init t) lf)],.map (ae (aa.int .i64) aa.bool (bA VSt.init t).pl),.box [.map 2],.map (ae (aa.int .i64) bB (bA VSt.init t).rw),.box [.map 4],.iter 4 (lf,la)] ?_ ?_
 refine qO ?_ ?_
 refine GY (ek:=(aa.int .i64)) (ev:=bB) (l:=(bA VSt.init t).rw) (o:=6) (m:=4) (lf:=lf) (la:=la) ((0:Int),([]:List (List UInt8))) kq kq kq kq kq ?_ ?_
 intro hli1
 refine qR 1 [(3,.ptr 1 0),(4,.ptr 3 0),(13,.itr 6),(15,.bool false)] [t.bx,.box [.bool (okL (bA VSt.init t) lf)],.map (ae (aa.int .i64) aa.bool (bA VSt.init t).pl),.box [.map 2],.map (ae (aa.int .i64) bB (bA VSt.init t).rw),.box [.map 4],.iter 4 (lf,la)] ?_ ?_
 refine ar ?_ ?_
 refine dY kq kq ?_
 refine bC 0 kq kq ?_
 refine af ?_
 refine af ?_
 refine aA ?_
 refine ab ?_
 refine qz [(3,.ptr 1 0)] ?_ ?_
 refine qV 2 ?_ ?_
 refine qT ?_ ?_
 refine aH (b:=(okL (bA VSt.init t) lf)) (.inr rfl) kq ?_
 · rw [cO];congr 1
 iterate 5 kernel_rfl
 intro i1 hii1 hlti1
 refine qR 1 [(3,.ptr 1 0),(4,.ptr 3 0),(13,.itr 6),(15,.bool true)] [t.bx,.box [.bool (okL (bA VSt.init t) lf)],.map (ae (aa.int .i64) aa.bool (bA VSt.init t).pl),.box [.map 2],.map (ae (aa.int .i64) bB (bA VSt.init t).rw),.box [.map 4],.iter 4 ((lf.filter (fun j=>!(Nat.beq j i1))),(some i1))] ?_ ?_
 refine ar ?_ ?_
 refine cp kq kq ?_
 refine qK ?_ ?_
 refine qz [(3,.ptr 1 0),(4,.ptr 3 0),(13,.itr 6)] ?_ ?_
 refine qB 1 ?_ ?_ ?_
 refine qO ?_ ?_
 refine F0 (ek:=(aa.int .i64)) (ev:=bB) (l:=(bA VSt.init t).rw) (o:=6) (m:=4) (i:=i1) (lf:=(lf.filter (fun j=>!(Nat.beq j i1)))) ((0:Int),([]:List (List UInt8))) kq kq kq kq kq aq ?_
 refine qR 2 [(3,.ptr 1 0),(4,.ptr 3 0),(6,.int .i64 (((bA VSt.init t).rw.getD i1 ((0:Int),([]:List (List UInt8)))).1)),(13,.itr 6)] [t.bx,.box [.bool (okL (bA VSt.init t) lf)],.map (ae (aa.int .i64) aa.bool (bA VSt.init t).pl),.box [.map 2],.map (ae (aa.int .i64) bB (bA VSt.init t).rw),.box [.map 4],.iter 4 ((lf.filter (fun j=>!(Nat.beq j i1))),(some i1))] ?_ ?_
 refine qo ?_ ?_
 refine qr 2 ?_ ?_
 by_cases hb2:(okL (bA VSt.init t) lf)=true
 refine gm 18 (.bool (okL (bA VSt.init t) lf)) (.bool true) (gw (lG jB)) kq (congrArg aa.bool (hb2)) ?_
 refine gm 19 (.bool (okL (bA VSt.init t) lf)) (.bool true) (gw (lG jB)) kq (congrArg aa.bool (hb2)) ?_
 refine qr 2 ?_ ?_
 rcases hm3:am (((bA VSt.init t).rw.getD i1 ((0:Int),([]:List (List UInt8)))).1) (bA VSt.init t).pl with _|x3
 refine qy (e8 (ok:=false) (o:=2) (ek:=(aa.int .i64)) (ev:=aa.bool) (l:=(bA VSt.init t).pl) (k:=(((bA VSt.init t).rw.getD i1 ((0:Int),([]:List (List UInt8)))).1)) dH hm3 kq Fl ty3 rfl ty4 kq) ?_ ?_ ?_
 refine qr 3 ?_ ?_
 refine qe ?_ ?_
 refine ak ?_
 refine ab ⟨((lf.filter (fun j=>!(Nat.beq j i1))),(some i1)),?_,?_,⟨⟨kq,kq,kq,trivial⟩,by simp [aV,aa.bel],by simp,(Eq.trans (b:=[t.bx,.box [.bool true],.map (ae (aa.int .i64) aa.bool (bA VSt.init t).pl),.box [.map 2],.map (ae (aa.int .i64) bB (bA VSt.init t).rw),.box [.map 4],.iter 4 ((lf.filter (fun j=>!(Nat.beq j i1))),(some i1))]) kq G8),by simp [ai.belO]⟩⟩
 rotate_left
 · try dsimp only
   all_goals trivial
 iterate 4 kernel_rfl
 refine qy (cH (ok:=false) (o:=2) (ek:=(aa.int .i64)) (ev:=aa.bool) (l:=(bA VSt.init t).pl) (k:=(((bA VSt.init t).rw.getD i1 ((0:Int),([]:List (List UInt8)))).1)) (x:=x3) dH hm3 kq Fl ty3 rfl ty4 kq) ?_ ?_ ?_
 refine qr 3 ?_ ?_
 refine qe ?_ ?_
 refine ak ?_
 refine ab ⟨((lf.filter (fun j=>!(Nat.beq j i1))),(some i1)),?_,?_,⟨⟨kq,kq,kq,trivial⟩,by simp [aV,aa.bel],by simp,(Eq.trans (b:=[t.bx,.box [.bool (!(x3))],.map (ae (aa.int .i64) aa.bool (bA VSt.init t).pl),.box [.map 2],.map (ae (aa.int .i64) bB (bA VSt.init t).rw),.box [.map 4],.iter 4 ((lf.filter (fun j=>!(Nat.beq j i1))),(some i1))]) kq G8),by simp [ai.belO]⟩⟩
 rotate_left
 · try dsimp only
   all_goals trivial
 iterate 5 kernel_rfl
 refine gm 18 (.bool (okL (bA VSt.init t) lf)) (.bool false) (gw (lG jB)) kq (congrArg aa.bool (Bool.eq_false_iff.2 hb2)) ?_
 refine gm 19 (.bool (okL (bA VSt.init t) lf)) (.bool false) (gw (lG jB)) kq (congrArg aa.bool (Bool.eq_false_iff.2 hb2)) ?_
 refine qr 6 ?_ ?_
 refine qe ?_ ?_
 refine ak ?_
 refine ab ⟨((lf.filter (fun j=>!(Nat.beq j i1))),(some i1)),?_,?_,⟨⟨kq,kq,kq,trivial⟩,by simp [aV,aa.bel],by simp,(Eq.trans (b:=[t.bx,.box [.bool false],.map (ae (aa.int .i64) aa.bool (bA VSt.init t).pl),.box [.map 2],.map (ae (aa.int .i64) bB (bA VSt.init t).rw),.box [.map 4],.iter 4 ((lf.filter (fun j=>!(Nat.beq j i1))),(some i1))]) kq G8),by simp [ai.belO]⟩⟩
 rotate_left
 · try dsimp only
   all_goals trivial
 iterate 26 kernel_rfl
 all_goals
  try dsimp only
  exact BB lf _ aq
structure Occ where
 n:Int
 row:Bool
 names:List (List UInt8)
def Occ.zero:Occ:=⟨0,false,[]⟩
def Occ.v (o:Occ):aa:=.agg [.int .i64 o.n,.bool o.row,.imm (o.names.map .str)]
@[simp] theorem F9 (h:ac) (o:Occ):o.v.frz h=o.v:=by simp [Occ.v]
@[simp] theorem Gm (k:Nat) (o:Occ):o.v.bel k=true:=by simp [Occ.v]
@[simp] theorem Ee (o:Occ):o.v.owns=[]:=by simp [Occ.v]
@[simp] theorem HM (h:ac) (l:List Occ):bo h (l.map Occ.v)=l.map Occ.v:=dn h (fun o=>F9 h o) l
@[simp] theorem HJ (k:Nat) (l:List Occ):bP k (l.map Occ.v)=true:=io k (fun o=>Gm k o) l
@[simp] theorem G2 (l:List Occ):aS (l.map Occ.v)=[]:=fT (fun o=>Ee o) l
theorem bm (h:ac) (a b:List aa):bo h (a++b)=bo h a++bo h b:=by rw [ce,ce,ce,List.map_append]
theorem bM (k:Nat):∀ (a b:List aa),bP k (a++b)=(bP k a && bP k b)
 | [],b=>by simp [bP]
 | x::a,b=>by simp only [List.cons_append,bP,bM k a b,Bool.and_assoc]
theorem a7:∀ (a b:List aa),aS (a++b)=aS a++aS b
 | [],b=>rfl
 | x::a,b=>by simp only [List.cons_append,aS,a7 a b,List.append_assoc]
mutual
def aF:Ty→List Occ
 | .mk k _ n l ks=>((if k=6 then [⟨n,false,[]⟩] else [])++aI ks)++(if k=5∧n≠0 then [⟨n,true,l⟩] else [])
def aI:List Ty→List Occ
 | []=>[]
 | t::l=>aF t++aI l
end
def sh (t:Ty):List Occ:=if t.kind=6 then [⟨t.n,false,[]⟩] else []
def rN (t:Ty):List Occ:=if t.kind=5∧t.n≠0 then [⟨t.n,true,t.names⟩] else []
theorem kr (t:Ty):aF t=(sh t++aI t.kids)++rN t:=by cases t;simp only [aF,sh,rN,Ty.kind,Ty.n,Ty.names,Ty.kids];rfl
theorem qQ (t:Ty):∀ l,aI (l++[t])=aI l++aF t
 | []=>by simp [aI]
 | x::l=>by simp only [List.cons_append,aI,qQ t l,List.append_assoc]
theorem qA (l:List Ty) (k:Nat) (h:k<l.length):aI (l.take (k+1))=aI (l.take k)++aF (l.getD k Ty.zero):=by rw [e7 l k h,qQ]
mutual
theorem mq:∀ t:Ty,(aF t).length≤t.sz
 | .mk k x n l ks=>by
  have:=ky ks
  simp only [aF,List.length_append,Ty.sz]
  by_cases h6:k=6
  · rw [if_pos h6,if_neg oq];simp;omega
  · rw [if_neg h6];split <;> simp <;> omega
theorem ky:∀ l:List Ty,(aI l).length≤Ty.szL l
 | []=>by simp [aI]
 | t::l=>by have:=mq t;have:=ky l;simp only [aI,List.length_append,Ty.szL];omega
end
theorem kW (t:Ty) (k:Nat):(aI (t.kids.take k)).length≤Ty.szL t.kids:=Nat.le_trans (ky _) (ie _ _)
mutual
def whl:Ty→Bool
 | .mk k x n l ks=>fmd (.mk k x n l ks) && kS ks
def kS:List Ty→Bool
 | []=>true
 | t::l=>whl t && kS l
end
theorem eS (t:Ty):whl t=(fmd t && kS t.kids):=by cases t;rfl
theorem vO:∀ l,kS l=l.all whl
 | []=>rfl
 | t::l=>by rw [kS,vO l,List.all_cons]
noncomputable def c59:Code:=aE Tryz.f59
theorem BS {p:Prop} (h:p:=by have:=kW t k;have:=b9 t k oq;have:=mq (t.kids.getD k Ty.zero);simp only [List.length_append,List.length_cons,List.length_nil];omega):p:=h
theorem Jf {p:Prop} (h:p:=by have:=kW t k;simp only [List.length_append,List.length_cons,List.length_nil];omega):p:=h
theorem FO {p:Prop} (h:p:=by rw [qA _ _ oq,List.append_assoc]):p:=h
theorem Bv (t:Ty) (hs:t.sz<100000000):ay cx 59 [Ty.v t] (.imm ((aF t).map Occ.v)):=by
 induction hN:t.sz using Nat.strongRecOn generalizing t with|_ N ih =>
 have ihO:∀ t':Ty,t'.sz<t.sz→ay cx 59 [t'.v] (.imm ((aF t').map Occ.v)):=fun t' h1=>ih _ (by rw [← hN];exact h1) t' (Nat.lt_trans h1 hs) rfl
 have hz1:=bK t
 have hz2:=ct t
 have hz3:=gP t
 refine ap (cx:=cx) 46 0 [(ResultVar.tmp 2)] Tryz.func59 rfl rfl rfl rfl rfl zq ?_
 show wpA cx 46 0 (at_ c59 []) _ _ _
 refine qZ [(0,Ty.v t)] [] ?_ ?_
 refine qW 2 [(1,.ptr 0 0)] [t.bx] ?_ ?_
 refine qU 1 [(1,.ptr 0 0),(3,.full [])] ?_ ?_
 refine pJ 3 3 dq kq ?_
 refine qZ [(1,.ptr 0 0),(3,.own 1 0 0)] [t.bx,.arr 3 (([]:List (Occ)).map Occ.v) 0] ?_ ?_
 refine ar ?_ ?_
 refine qU 3 [(1,.ptr 0 0),(3,.own 1 0 0),(7,.bool ((t.kind)==6))] ?_ ?_
 by_cases hb1:(t.kind)=6
 refine qt (beq_iff_eq.2 hb1) ?_ ?_
 refine qo ?_ ?_
 refine qr 5 ?_ ?_
 refine qY (BQ (o:=1) (len:=0) (l:=([]:List (Occ))) (xs:=[.agg [.int .i64 (t.n),.bool false,.full []]]) (enc:=Occ.v) (sz:=3) (fr:=0) (x:=(.full [.agg [.int .i64 (t.n),.bool false,.full []]])) kq ng zN ng rfl kq rfl rfl kq ⟨by decide,by kernel_rfl⟩ kq (by simp) (by simp)) ?_ ?_ ?_
 refine qR 1 [(1,.ptr 0 0),(3,.own 1 0 (([]:List (Occ)).length+1))] [t.bx,.arr 3 (([]:List (Occ)).map Occ.v++[.agg [.int .i64 (t.n),.bool false,.full []]]) 0] ?_ ?_
 refine H3 1 (sz:=3) (fr:=0) (es:=(([]:List (Occ)).map Occ.v++[.agg [.int .i64 (t.n),.bool false,.full []]])) ((([]:List (Occ))++[(Occ.mk (t.n) false [])]).map Occ.v) kq (by simp [Ty.v,a7]) (by simp [Ty.v,bm,Occ.v]) ?_
 refine JG 3 (.own 1 0 (([]:List (Occ)).length+1)) (.own 1 0 (([]:List (Occ))++[(Occ.mk (t.n) false [])]).length) kq zq ?_
 refine qZ [(1,.ptr 0 0),(3,.own 1 0 (([]:List (Occ))++[(Occ.mk (t.n) false [])]).length)] [t.bx,.arr 3 ((([]:List (Occ))++[(Occ.mk (t.n) false [])]).map Occ.v) 0] ?_ ?_
 refine ar ?_ ?_
 refine qU 1 [(1,.ptr 0 0),(3,.own 1 0 (([]:List (Occ))++[(Occ.mk (t.n) false [])]).length),(4,.int .i64 0)] ?_ ?_
 refine qB 0 ?_ ?_ ?_
 refine bR (σ:=Nat) (fun k=>[(1,.ptr 0 0),(3,.own 1 0 ((([]:List (Occ))++[(Occ.mk (t.n) false [])])++aI (t.kids.take k)).length),(4,.int .i64 ((k:Nat):Int))]) (fun k=>[t.bx,.arr 3 (((([]:List (Occ))++[(Occ.mk (t.n) false [])])++aI (t.kids.take k)).map Occ.v) 0]) (fun k=>k≤t.kids.length) (fun k=>t.kids.length - k) 0 kq (by exact Nat.zero_le _) ⟨⟨kq,(Eq.trans (b:=.own 1 0 (([]:List (Occ))++[(Occ.mk (t.n) false [])]).length) kq (by simp [aI])),kq,trivial⟩,by simp [aV,aa.bel],by simp,(Eq.trans (b:=[t.bx,.arr 3 ((([]:List (Occ))++[(Occ.mk (t.n) false [])]).map Occ.v) 0]) kq (by simp [aI])),by simp [ai.belO,-List.map_append]⟩ ?_
 rintro k hk
 refine ar ?_ ?_
 refine qV 3 ?_ ?_
 refine qy (au (l:=t.kids) (enc:=Ty.enc) kq bf) ?_ ?_ ?_
 refine qR 1 [(1,.ptr 0 0),(3,.own 1 0 ((([]:List (Occ))++[(Occ.mk (t.n) false [])])++aI (t.kids.take k)).length),(4,nI k),(18,.bool (decide (((k:Nat):Int)<((t.kids.length:Nat):Int))))] [t.bx,.arr 3 (((([]:List (Occ))++[(Occ.mk (t.n) false [])])++aI (t.kids.take k)).map Occ.v) 0] ?_ ?_
 by_cases hb2:((k:Nat):Int)<((t.kids.length:Nat):Int)
 refine qt (decide_eq_true hb2) ?_ ?_
 refine qK ?_ ?_
 refine qz [(1,.ptr 0 0),(3,.own 1 0 ((([]:List (Occ))++[(Occ.mk (t.n) false [])])++aI (t.kids.take k)).length),(4,nI k)] ?_ ?_
 refine ar ?_ ?_
 refine qB 1 ?_ ?_ ?_
 refine qo ?_ ?_
 refine qr 4 ?_ ?_
 refine qy ((ax (k:=.i64) (l:=t.kids) (enc:=Ty.enc) (i:=((k:Nat):Int)) Ty.zero kq bf bX bg oq oq).trans (congrArg (fun cs=>some (aa.pimm cs 0,_)) (aO (t.kids.getD k Ty.zero)))) ?_ ?_ ?_
 refine qr 1 ?_ ?_
 refine bp (args:=[.agg [.int .i64 ((t.kids.getD k Ty.zero).kind),.str (t.kids.getD k Ty.zero).name,.int .i64 ((t.kids.getD k Ty.zero).n),.imm ((t.kids.getD k Ty.zero).names.map aa.str),.imm ((t.kids.getD k Ty.zero).kids.map Ty.enc)]]) kq kq kq kq (ihO (t.kids.getD k Ty.zero) (b9 t k oq)) (by simp [Ty.v,bm,Occ.v]) (by simp [Ty.v]) (by simp [Ty.v,a7]) ?_
 refine qY (bh (o:=1) (len:=(((([]:List (Occ))++[(Occ.mk (t.n) false [])])++aI (t.kids.take k)).length)) (l:=((([]:List (Occ))++[(Occ.mk (t.n) false [])])++aI (t.kids.take k))) (xs:=(aF (t.kids.getD k Ty.zero))) (enc:=Occ.v) (sz:=3) (fr:=0) (x:=(.imm ((aF (t.kids.getD k Ty.zero)).map Occ.v))) kq ng zN ng rfl kq rfl rfl kq ⟨by decide,by kernel_rfl⟩ (fun _=>rfl) BS BS) ?_ ?_ ?_
 refine qr 1 ?_ ?_
 refine qe ?_ ?_
 refine ak ?_
 refine ab ?_
 refine qZ [(1,.ptr 0 0),(3,.own 1 0 (((([]:List (Occ))++[(Occ.mk (t.n) false [])])++aI (t.kids.take k))++(aF (t.kids.getD k Ty.zero))).length),(4,nI k)] [t.bx,.arr 3 ((((([]:List (Occ))++[(Occ.mk (t.n) false [])])++aI (t.kids.take k))++(aF (t.kids.getD k Ty.zero))).map Occ.v) 0] ?_ ?_
 refine qo ?_ ?_
 refine qr 1 ?_ ?_
 refine qy (aN (a:=((k:Nat):Int)) (b:=1) kq oq oq) ?_ ?_ ?_
 refine qr 1 ?_ ?_
 refine qe ?_ ?_
 refine ab ⟨k+1,?_,?_,⟨⟨kq,(Eq.trans (b:=.own 1 0 (((([]:List (Occ))++[(Occ.mk (t.n) false [])])++aI (t.kids.take k))++(aF (t.kids.getD k Ty.zero))).length) kq FO),kq,trivial⟩,by simp [aV,aa.bel],by simp,(Eq.trans (b:=[t.bx,.arr 3 ((((([]:List (Occ))++[(Occ.mk (t.n) false [])])++aI (t.kids.take k))++(aF (t.kids.getD k Ty.zero))).map Occ.v) 0]) kq FO),by simp [ai.belO,-List.map_append]⟩⟩
 · omega
 · omega
 iterate 22 kernel_rfl
 refine qf (decide_eq_false hb2) ?_ ?_
 refine bC 0 kq kq ?_
 refine af ?_
 refine af ?_
 refine aA ?_
 refine ab ?_
 refine qz [(1,.ptr 0 0),(3,.own 1 0 ((([]:List (Occ))++[(Occ.mk (t.n) false [])])++aI (t.kids.take k)).length)] ?_ ?_
 refine ar ?_ ?_
 refine qV 4 ?_ ?_
 by_cases hb3:(t.kind)=5
 refine qm [31,32] (beq_iff_eq.2 hb3) ?_ ?_
 refine qR 4 [(1,.ptr 0 0),(3,.own 1 0 ((([]:List (Occ))++[(Occ.mk (t.n) false [])])++aI (t.kids.take k)).length),(36,.bool ((t.n) != 0))] [t.bx,.arr 3 (((([]:List (Occ))++[(Occ.mk (t.n) false [])])++aI (t.kids.take k)).map Occ.v) 0] ?_ ?_
 by_cases hb4:(t.n)=0
 refine qf (x:=((t.n) != 0)) (bne_eq_false_iff_eq.2 hb4) ?_ ?_
 refine qK ?_ ?_
 refine qz [(3,.own 1 0 ((([]:List (Occ))++[(Occ.mk (t.n) false [])])++aI (t.kids.take k)).length)] ?_ ?_
 refine qU 2 [(2,.own 1 0 ((([]:List (Occ))++[(Occ.mk (t.n) false [])])++aI (t.kids.take k)).length)] ?_ ?_
 refine bb kq ?_
 refine eP (l:=[.own 1 0 ((([]:List (Occ))++[(Occ.mk (t.n) false [])])++aI (t.kids.take k)).length]) (.inr rfl) kq ?_
 rotate_left
 iterate 4 kernel_rfl
 refine qt (x:=((t.n) != 0)) (bne_iff_ne.2 hb4) ?_ ?_
 refine qo ?_ ?_
 refine qr 7 ?_ ?_
 refine qY (bh (o:=1) (len:=(((([]:List (Occ))++[(Occ.mk (t.n) false [])])++aI (t.kids.take k)).length)) (l:=((([]:List (Occ))++[(Occ.mk (t.n) false [])])++aI (t.kids.take k))) (xs:=[(Occ.mk (t.n) true t.names)]) (enc:=Occ.v) (sz:=3) (fr:=0) (x:=(.full [.agg [.int .i64 (t.n),.bool true,.imm (t.names.map aa.str)]])) kq ng zN ng rfl kq rfl rfl kq ⟨by decide,by kernel_rfl⟩ (fun _=>rfl) BS BS) ?_ ?_ ?_
 refine qR 1 [(3,.own 1 0 (((([]:List (Occ))++[(Occ.mk (t.n) false [])])++aI (t.kids.take k))++[(Occ.mk (t.n) true t.names)]).length)] [t.bx,.arr 3 ((((([]:List (Occ))++[(Occ.mk (t.n) false [])])++aI (t.kids.take k))++[(Occ.mk (t.n) true t.names)]).map Occ.v) 0] ?_ ?_
 refine qU 2 [(2,.own 1 0 (((([]:List (Occ))++[(Occ.mk (t.n) false [])])++aI (t.kids.take k))++[(Occ.mk (t.n) true t.names)]).length)] ?_ ?_
 refine bb kq ?_
 refine eP (l:=[.own 1 0 (((([]:List (Occ))++[(Occ.mk (t.n) false [])])++aI (t.kids.take k))++[(Occ.mk (t.n) true t.names)]).length]) (.inr rfl) kq ?_
 rotate_left
 iterate 9 kernel_rfl
 refine qm [31,32] (beq_eq_false_iff_ne.2 hb3) ?_ ?_
 refine qR 4 [(1,.ptr 0 0),(3,.own 1 0 ((([]:List (Occ))++[(Occ.mk (t.n) false [])])++aI (t.kids.take k)).length),(36,.bool false)] [t.bx,.arr 3 (((([]:List (Occ))++[(Occ.mk (t.n) false [])])++aI (t.kids.take k)).map Occ.v) 0] ?_ ?_
 refine dY kq kq ?_
 refine qK ?_ ?_
 refine qz [(3,.own 1 0 ((([]:List (Occ))++[(Occ.mk (t.n) false [])])++aI (t.kids.take k)).length)] ?_ ?_
 refine qU 2 [(2,.own 1 0 ((([]:List (Occ))++[(Occ.mk (t.n) false [])])++aI (t.kids.take k)).length)] ?_ ?_
 refine bb kq ?_
 refine eP (l:=[.own 1 0 ((([]:List (Occ))++[(Occ.mk (t.n) false [])])++aI (t.kids.take k)).length]) (.inr rfl) kq ?_
 rotate_left
 iterate 25 kernel_rfl
 refine qf (beq_eq_false_iff_ne.2 hb1) ?_ ?_
 refine qK ?_ ?_
 refine qz [(1,.ptr 0 0),(3,.own 1 0 0)] ?_ ?_
 refine ar ?_ ?_
 refine qU 1 [(1,.ptr 0 0),(3,.own 1 0 0),(4,.int .i64 0)] ?_ ?_
 refine qB 0 ?_ ?_ ?_
 refine bR (σ:=Nat) (fun k=>[(1,.ptr 0 0),(3,.own 1 0 (([]:List (Occ))++aI (t.kids.take k)).length),(4,.int .i64 ((k:Nat):Int))]) (fun k=>[t.bx,.arr 3 ((([]:List (Occ))++aI (t.kids.take k)).map Occ.v) 0]) (fun k=>k≤t.kids.length) (fun k=>t.kids.length - k) 0 kq (by exact Nat.zero_le _) ⟨⟨kq,(Eq.trans (b:=.own 1 0 0) kq (by simp [aI])),kq,trivial⟩,by simp [aV,aa.bel],by simp,(Eq.trans (b:=[t.bx,.arr 3 (([]:List (Occ)).map Occ.v) 0]) kq (by simp [aI])),by simp [ai.belO,-List.map_append]⟩ ?_
 rintro k hk
 refine ar ?_ ?_
 refine qV 3 ?_ ?_
 refine qy (au (l:=t.kids) (enc:=Ty.enc) kq bf) ?_ ?_ ?_
 refine qR 1 [(1,.ptr 0 0),(3,.own 1 0 (([]:List (Occ))++aI (t.kids.take k)).length),(4,nI k),(18,.bool (decide (((k:Nat):Int)<((t.kids.length:Nat):Int))))] [t.bx,.arr 3 ((([]:List (Occ))++aI (t.kids.take k)).map Occ.v) 0] ?_ ?_
 by_cases hb5:((k:Nat):Int)<((t.kids.length:Nat):Int)
 refine qt (decide_eq_true hb5) ?_ ?_
 refine qK ?_ ?_
 refine qz [(1,.ptr 0 0),(3,.own 1 0 (([]:List (Occ))++aI (t.kids.take k)).length),(4,nI k)] ?_ ?_
 refine ar ?_ ?_
 refine qB 1 ?_ ?_ ?_
 refine qo ?_ ?_
 refine qr 4 ?_ ?_
 refine qy ((ax (k:=.i64) (l:=t.kids) (enc:=Ty.enc) (i:=((k:Nat):Int)) Ty.zero kq bf bX bg oq oq).trans (congrArg (fun cs=>some (aa.pimm cs 0,_)) (aO (t.kids.getD k Ty.zero)))) ?_ ?_ ?_
 refine qr 1 ?_ ?_
 refine bp (args:=[.agg [.int .i64 ((t.kids.getD k Ty.zero).kind),.str (t.kids.getD k Ty.zero).name,.int .i64 ((t.kids.getD k Ty.zero).n),.imm ((t.kids.getD k Ty.zero).names.map aa.str),.imm ((t.kids.getD k Ty.zero).kids.map Ty.enc)]]) kq kq kq kq (ihO (t.kids.getD k Ty.zero) (b9 t k oq)) (by simp [Ty.v,bm,Occ.v]) (by simp [Ty.v]) (by simp [Ty.v,a7]) ?_
 refine qY (bh (o:=1) (len:=((([]:List (Occ))++aI (t.kids.take k)).length)) (l:=(([]:List (Occ))++aI (t.kids.take k))) (xs:=(aF (t.kids.getD k Ty.zero))) (enc:=Occ.v) (sz:=3) (fr:=0) (x:=(.imm ((aF (t.kids.getD k Ty.zero)).map Occ.v))) kq ng zN ng rfl kq rfl rfl kq ⟨by decide,by kernel_rfl⟩ (fun _=>rfl) BS BS) ?_ ?_ ?_
 refine qr 1 ?_ ?_
 refine qe ?_ ?_
 refine ak ?_
 refine ab ?_
 refine qZ [(1,.ptr 0 0),(3,.own 1 0 ((([]:List (Occ))++aI (t.kids.take k))++(aF (t.kids.getD k Ty.zero))).length),(4,nI k)] [t.bx,.arr 3 (((([]:List (Occ))++aI (t.kids.take k))++(aF (t.kids.getD k Ty.zero))).map Occ.v) 0] ?_ ?_
 refine qo ?_ ?_
 refine qr 1 ?_ ?_
 refine qy (aN (a:=((k:Nat):Int)) (b:=1) kq oq oq) ?_ ?_ ?_
 refine qr 1 ?_ ?_
 refine qe ?_ ?_
 refine ab ⟨k+1,?_,?_,⟨⟨kq,(Eq.trans (b:=.own 1 0 ((([]:List (Occ))++aI (t.kids.take k))++(aF (t.kids.getD k Ty.zero))).length) kq FO),kq,trivial⟩,by simp [aV,aa.bel],by simp,(Eq.trans (b:=[t.bx,.arr 3 (((([]:List (Occ))++aI (t.kids.take k))++(aF (t.kids.getD k Ty.zero))).map Occ.v) 0]) kq FO),by simp [ai.belO,-List.map_append]⟩⟩
 · omega
 · omega
 iterate 22 kernel_rfl
 refine qf (decide_eq_false hb5) ?_ ?_
 refine bC 0 kq kq ?_
 refine af ?_
 refine af ?_
 refine aA ?_
 refine ab ?_
 refine qz [(1,.ptr 0 0),(3,.own 1 0 (([]:List (Occ))++aI (t.kids.take k)).length)] ?_ ?_
 refine ar ?_ ?_
 refine qV 4 ?_ ?_
 by_cases hb6:(t.kind)=5
 refine qm [31,32] (beq_iff_eq.2 hb6) ?_ ?_
 refine qR 4 [(1,.ptr 0 0),(3,.own 1 0 (([]:List (Occ))++aI (t.kids.take k)).length),(36,.bool ((t.n) != 0))] [t.bx,.arr 3 ((([]:List (Occ))++aI (t.kids.take k)).map Occ.v) 0] ?_ ?_
 by_cases hb7:(t.n)=0
 refine qf (x:=((t.n) != 0)) (bne_eq_false_iff_eq.2 hb7) ?_ ?_
 refine qK ?_ ?_
 refine qz [(3,.own 1 0 (([]:List (Occ))++aI (t.kids.take k)).length)] ?_ ?_
 refine qU 2 [(2,.own 1 0 (([]:List (Occ))++aI (t.kids.take k)).length)] ?_ ?_
 refine bb kq ?_
 refine eP (l:=[.own 1 0 (([]:List (Occ))++aI (t.kids.take k)).length]) (.inr rfl) kq ?_
 rotate_left
 iterate 4 kernel_rfl
 refine qt (x:=((t.n) != 0)) (bne_iff_ne.2 hb7) ?_ ?_
 refine qo ?_ ?_
 refine qr 7 ?_ ?_
 refine qY (bh (o:=1) (len:=((([]:List (Occ))++aI (t.kids.take k)).length)) (l:=(([]:List (Occ))++aI (t.kids.take k))) (xs:=[(Occ.mk (t.n) true t.names)]) (enc:=Occ.v) (sz:=3) (fr:=0) (x:=(.full [.agg [.int .i64 (t.n),.bool true,.imm (t.names.map aa.str)]])) kq ng zN ng rfl kq rfl rfl kq ⟨by decide,by kernel_rfl⟩ (fun _=>rfl) Jf Jf) ?_ ?_ ?_
 refine qR 1 [(3,.own 1 0 ((([]:List (Occ))++aI (t.kids.take k))++[(Occ.mk (t.n) true t.names)]).length)] [t.bx,.arr 3 (((([]:List (Occ))++aI (t.kids.take k))++[(Occ.mk (t.n) true t.names)]).map Occ.v) 0] ?_ ?_
 refine qU 2 [(2,.own 1 0 ((([]:List (Occ))++aI (t.kids.take k))++[(Occ.mk (t.n) true t.names)]).length)] ?_ ?_
 refine bb kq ?_
 refine eP (l:=[.own 1 0 ((([]:List (Occ))++aI (t.kids.take k))++[(Occ.mk (t.n) true t.names)]).length]) (.inr rfl) kq ?_
 rotate_left
 iterate 9 kernel_rfl
 refine qm [31,32] (beq_eq_false_iff_ne.2 hb6) ?_ ?_
 refine qR 4 [(1,.ptr 0 0),(3,.own 1 0 (([]:List (Occ))++aI (t.kids.take k)).length),(36,.bool false)] [t.bx,.arr 3 ((([]:List (Occ))++aI (t.kids.take k)).map Occ.v) 0] ?_ ?_
 refine dY kq kq ?_
 refine qK ?_ ?_
 refine qz [(3,.own 1 0 (([]:List (Occ))++aI (t.kids.take k)).length)] ?_ ?_
 refine qU 2 [(2,.own 1 0 (([]:List (Occ))++aI (t.kids.take k)).length)] ?_ ?_
 refine bb kq ?_
 refine eP (l:=[.own 1 0 (([]:List (Occ))++aI (t.kids.take k)).length]) (.inr rfl) kq ?_
 rotate_left
 iterate 27 kernel_rfl
 all_goals
  first|(exfalso;omega)|(have hk2:t.kids.take k=t.kids:=List.take_of_length_le oq;rw [kr,hk2];simp [sh,rN,aK,aa.frz,bM, *];done)
def pB (l:List Occ) (i k:Nat):Bool:=((l.getD i Occ.zero).n==(l.getD k Occ.zero).n) && ((l.getD i Occ.zero).row != (l.getD k Occ.zero).row || !((l.getD i Occ.zero).names==(l.getD k Occ.zero).names))
def we (l:List Occ):Bool:=(List.range l.length).all fun i=>(List.range i).all fun k=>!(pB l i k)
def uh (t:Ty):Bool:=whl t && we (aF t)
theorem yS {l:List Occ} (h:∀ i,i<l.length→∀ k,k<i→pB l i k=false):we l=true:=by
 unfold we;simp only [List.all_eq_true,List.mem_range,Bool.not_eq_true'];exact h
def eu (s:VSt) (o:Occ):VSt:=if o.row then ⟨s.ok && jy (am o.n s.rw) o.names,s.pl,aJ o.n o.names s.rw⟩ else ⟨s.ok,aJ o.n true s.pl,s.rw⟩
def d4 (s:VSt) (b:Bool):VSt:=⟨s.ok && b,s.pl,s.rw⟩
theorem jI (s:VSt) (a b:Bool):d4 (d4 s a) b=d4 s (a && b):=by simp [d4,Bool.and_assoc]
theorem yU (s:VSt):d4 s true=s:=by simp [d4]
theorem B5 (s:VSt) (b:Bool) (o:Occ):eu (d4 s b) o=d4 (eu s o) b:=by
 unfold eu d4
 split <;> simp [Bool.and_assoc,Bool.and_comm b]
theorem lS (b:Bool):∀ (l:List Occ) (s:VSt),l.foldl eu (d4 s b)=d4 (l.foldl eu s) b
 | [],s=>rfl
 | o::l,s=>by rw [List.foldl_cons,B5,lS b l,List.foldl_cons]
theorem FG (s:VSt) (t:Ty) (h:¬ t.kind=5):bk s t=d4 ((sh t).foldl eu s) (fmd t):=by
 unfold bk sh
 by_cases h6:t.kind=6
 · rw [if_pos h6,if_pos h6];rfl
 · rw [if_neg h6,if_neg h6,if_neg (fun hc=>h hc.1)];rfl
theorem F7 (s:VSt) (t:Ty) (h:t.kind=5):bk s t=d4 ((rN t).foldl eu s) (fmd t):=by
 unfold bk rN
 rw [if_neg oq]
 by_cases hn:t.n=0
 · rw [if_neg (fun hc=>hc.2 hn),if_neg (fun hc=>hc.2 hn)];rfl
 · rw [if_pos ⟨h,hn⟩,if_pos ⟨h,hn⟩];simp [eu,d4,Bool.and_assoc,Bool.and_comm (fmd t)]
mutual
theorem vn:∀ (t:Ty) (s:VSt),bA s t=d4 ((aF t).foldl eu s) (whl t)
 | .mk k x n l ks,s=>by
  by_cases h5:k=5
  · rw [vW s (.mk k x n l ks) h5,F7 _ (.mk k x n l ks) h5,kr,eS]
    have e:sh (.mk k x n l ks)=[]:=by unfold sh;rw [if_neg (by simp only [Ty.kind];omega)]
    rw [e,List.nil_append,List.foldl_append]
    show d4 (List.foldl eu (aU s ks) _) _=d4 (List.foldl eu (List.foldl eu s (aI ks)) _) (_ && kS ks)
    rw [m4 ks s,lS,jI,Bool.and_comm]
  · rw [vr s (.mk k x n l ks) h5,FG _ (.mk k x n l ks) h5,kr,eS]
    have e:rN (.mk k x n l ks)=[]:=by unfold rN;rw [if_neg (fun hc=>h5 hc.1)]
    rw [e,List.append_nil,List.foldl_append]
    show aU (d4 _ _) ks=d4 (List.foldl eu _ (aI ks)) (_ && kS ks)
    rw [m4 ks,lS,jI]
theorem m4:∀ (l:List Ty) (s:VSt),aU s l=d4 ((aI l).foldl eu s) (kS l)
 | [],s=>by simp only [aU,aI,kS,yU,List.foldl_nil]
 | t::l,s=>by
  simp only [aU,aI,kS]
  rw [vn t s,m4 l,lS,jI,List.foldl_append]
end
theorem xC {κ α:Type} [DecidableEq κ] (k:κ) (v:α):∀ l:List (κ×α),am k l=some v→(k,v)∈l
 | [],h=>by simp [am] at h
 | p::l,h=>by
  simp only [am] at h
  split at h
  · rename_i e;cases h;subst e;exact List.mem_cons_self
  · exact List.mem_cons_of_mem _ (xC k v l h)
theorem nS {κ α:Type} [DecidableEq κ]:∀ (l:List (κ×α)) (p:κ×α),p∈l→∃ v,am p.1 l=some v
 | q::l,p,h=>by
  simp only [am]
  by_cases e:p.1=q.1
  · rw [if_pos e];exact ⟨_,rfl⟩
  · rw [if_neg e]
    rcases List.mem_cons.1 h with h|h
    · rw [h] at e;exact absurd rfl e
    · exact nS l p h
structure BU (l:List Occ) (s:VSt):Prop where
 pl:∀ n,am n s.pl=some true↔∃ o∈l,o.row=false∧o.n=n
 plt:∀ n b,am n s.pl=some b→b=true
 rw1:∀ n w,am n s.rw=some w→∃ o∈l,o.row=true∧o.n=n∧o.names=w
 rw2:∀ o∈l,o.row=true→∃ w,am o.n s.rw=some w
 rw3:s.ok=true→∀ o∈l,o.row=true→am o.n s.rw=some o.names
 ok:(∀ o∈l,∀ o'∈l,o.row=true→o'.row=true→o.n=o'.n→o.names=o'.names)→s.ok=true
theorem CM:BU [] VSt.init:=⟨by simp [VSt.init,am],by simp [VSt.init,am],by simp [VSt.init,am],by simp,by simp,fun _=>rfl⟩
theorem Bn {l:List Occ} {s:VSt} (h:BU l s) (o:Occ):BU (l++[o]) (eu s o):=by
 unfold eu
 cases hr:o.row with
 | false =>
  simp only [Bool.false_eq_true,if_false]
  refine ⟨fun n=>?_,fun n b=>?_,fun n w hw=>?_,fun q hq hqr=>?_,fun hok q hq hqr=>?_,fun hc=>?_⟩
  · simp only [bE]
    by_cases e:n=o.n
    · subst e;simp;exact .inr hr
    · rw [if_neg e,h.pl n]
      constructor
      · rintro ⟨q,h1,h2⟩;exact ⟨q,List.mem_append_left _ h1,h2⟩
      · rintro ⟨q,h1,h2⟩
        rcases List.mem_append.1 h1 with h1|h1
        · exact ⟨q,h1,h2⟩
        · simp at h1;subst h1;exact absurd h2.2.symm e
  · simp only [bE]
    by_cases e:n=o.n
    · rw [if_pos e];intro h;cases h;rfl
    · rw [if_neg e];exact h.plt n b
  · obtain ⟨q,h1,h2⟩:=h.rw1 n w hw;exact ⟨q,List.mem_append_left _ h1,h2⟩
  · rcases List.mem_append.1 hq with h1|h1
    · exact h.rw2 q h1 hqr
    · simp at h1;subst h1;rw [hr] at hqr;cases hqr
  · rcases List.mem_append.1 hq with h1|h1
    · exact h.rw3 hok q h1 hqr
    · simp at h1;subst h1;rw [hr] at hqr;cases hqr
  · exact h.ok fun a ha b hb=>hc a (List.mem_append_left _ ha) b (List.mem_append_left _ hb)
 | true =>
  simp only [if_true]
  have hrw:jy (am o.n s.rw) o.names=true→∀ w,am o.n s.rw=some w→w=o.names:=by
   intro h1 w hw;rw [hw] at h1;simpa [jy] using h1
  refine ⟨fun n=>?_,h.plt,fun n w hw=>?_,fun q hq hqr=>?_,fun hok q hq hqr=>?_,fun hc=>?_⟩
  · rw [h.pl n]
    constructor
    · rintro ⟨q,h1,h2⟩;exact ⟨q,List.mem_append_left _ h1,h2⟩
    · rintro ⟨q,h1,h2⟩
      rcases List.mem_append.1 h1 with h1|h1
      · exact ⟨q,h1,h2⟩
      · simp at h1;subst h1;rw [hr] at h2;cases h2.1
  · simp only [bE] at hw
    split at hw
    · rename_i e;cases hw;exact ⟨o,by simp,hr,e.symm,rfl⟩
    · obtain ⟨q,h1,h2⟩:=h.rw1 n w hw;exact ⟨q,List.mem_append_left _ h1,h2⟩
  · simp only [bE]
    split
    · exact ⟨_,rfl⟩
    · rename_i e
      rcases List.mem_append.1 hq with h1|h1
      · exact h.rw2 q h1 hqr
      · simp at h1;subst h1;exact absurd rfl e
  · simp only [Bool.and_eq_true] at hok
    simp only [bE]
    rcases List.mem_append.1 hq with h1|h1
    · have:=h.rw3 hok.1 q h1 hqr
      split
      · rename_i e
        rw [e] at this
        rw [hrw hok.2 _ this]
      · exact this
    · simp at h1;subst h1;rw [if_pos rfl]
  · simp only [Bool.and_eq_true]
    refine ⟨h.ok fun a ha b hb=>hc a (List.mem_append_left _ ha) b (List.mem_append_left _ hb),?_⟩
    cases hm:am o.n s.rw with
    | none=>rfl
    | some w =>
     obtain ⟨q,h1,h2,h3,h4⟩:=h.rw1 _ _ hm
     have:=hc q (List.mem_append_left _ h1) o zq h2 hr h3
     simp [jy,← h4,this]
theorem Cr (l:List Occ):BU l (l.foldl eu VSt.init):=by
 have:∀ (r l:List Occ) (s:VSt),BU l s→BU (l++r) (r.foldl eu s):=by
  intro r
  induction r with
  | nil=>intro l s h;simpa using h
  | cons o r ih=>intro l s h;have:=ih (l++[o]) _ (Bn h o);simpa using this
 simpa using this l [] _ CM
def Con (l:List Occ):Prop:=∀ o∈l,∀ o'∈l,o.n=o'.n→o.row=o'.row∧o.names=o'.names
theorem FX (s:VSt):okL s []=true↔s.ok=true∧∀ p∈s.rw,(am p.1 s.pl).getD false=false:=by
 simp only [okL,Bool.and_eq_true,List.all_eq_true,List.mem_range,List.contains_nil,Bool.false_or,Bool.not_eq_true',CB]
 constructor
 · rintro ⟨h1,h2⟩
   refine ⟨h1,fun p hp=>?_⟩
   obtain ⟨i,hi,rfl⟩:=List.getElem_of_mem hp
   have:=h2 i hi
   rwa [List.getD_eq_getElem?_getD,List.getElem?_eq_getElem hi] at this
 · rintro ⟨h1,h2⟩
   refine ⟨h1,fun i hi=>?_⟩
   rw [List.getD_eq_getElem?_getD,List.getElem?_eq_getElem hi]
   exact h2 _ (List.getElem_mem hi)
theorem FF (l:List Occ) (hn:∀ o∈l,o.row=false→o.names=[]):okL (l.foldl eu VSt.init) []=true↔Con l:=by
 have h:=Cr l
 rw [FX]
 constructor
 · rintro ⟨h1,h2⟩ o ho o' ho' e
   have mix:∀ o∈l,∀ o'∈l,o.n=o'.n→o.row=true→o'.row=false→False:=by
    intro o ho o' ho' e hr hr'
    obtain ⟨w,hw⟩:=h.rw2 o ho hr
    have:=h2 _ (xC _ _ _ hw)
    have hp:=(h.pl o.n).2 ⟨o',ho',hr',e.symm⟩
    simp only at this
    rw [hp] at this;cases this
   cases hr:o.row with
   | false =>
    cases hr':o'.row with
    | false=>exact ⟨rfl,by rw [hn o ho hr,hn o' ho' hr']⟩
    | true=>exact (mix o' ho' o ho e.symm hr' hr).elim
   | true =>
    cases hr':o'.row with
    | false=>exact (mix o ho o' ho' e hr hr').elim
    | true =>
     have a:=h.rw3 h1 o ho hr
     have b:=h.rw3 h1 o' ho' hr'
     rw [e,b] at a
     exact ⟨rfl,by injection a with a;exact a.symm⟩
 · intro hc
   refine ⟨h.ok fun a ha b hb _ _ e=>(hc a ha b hb e).2,fun p hp=>?_⟩
   obtain ⟨w,hw⟩:=nS _ p hp
   obtain ⟨o,ho,hr,e,_⟩:=h.rw1 _ _ hw
   cases hm:am p.1 (l.foldl eu VSt.init).pl with
   | none=>rfl
   | some b =>
    have hb:=h.plt _ _ hm
    subst hb
    obtain ⟨o',ho',hr',e'⟩:=(h.pl _).1 hm
    have:=(hc o ho o' ho' (e.trans e'.symm)).1
    rw [hr,hr'] at this;cases this
theorem yi (l:List Occ) (i k:Nat):pB l i k=false↔((l.getD i Occ.zero).n=(l.getD k Occ.zero).n→(l.getD i Occ.zero).row=(l.getD k Occ.zero).row∧(l.getD i Occ.zero).names=(l.getD k Occ.zero).names):=by
 unfold pB
 generalize l.getD i Occ.zero=a
 generalize l.getD k Occ.zero=b
 by_cases h1:a.n=b.n <;> by_cases h2:a.row=b.row <;> by_cases h3:a.names=b.names <;> simp [h1,h2,h3]
theorem BI (l:List Occ):we l=true↔Con l:=by
 have e:∀ i (h:i<l.length),l.getD i Occ.zero=l[i]:=fun i h=>by rw [List.getD_eq_getElem?_getD,List.getElem?_eq_getElem h];rfl
 unfold we Con
 simp only [List.all_eq_true,List.mem_range,Bool.not_eq_true',yi]
 constructor
 · intro h o ho o' ho' hn
   obtain ⟨i,hi,rfl⟩:=List.getElem_of_mem ho
   obtain ⟨k,hk,rfl⟩:=List.getElem_of_mem ho'
   rcases Nat.lt_trichotomy i k with hlt|rfl|hlt
   · have:=h k hk i hlt;rw [e k hk,e i hi] at this
     exact ⟨(this hn.symm).1.symm,(this hn.symm).2.symm⟩
   · exact ⟨rfl,rfl⟩
   · have:=h i hi k hlt;rw [e k hk,e i hi] at this
     exact this hn
 · intro h i hi k hk
   rw [e i hi,e k oq]
   exact h _ (List.getElem_mem _) _ (List.getElem_mem _)
mutual
theorem rc:∀ (t:Ty) (o:Occ),o∈aF t→o.row=false→o.names=[]
 | .mk k x n l ks,o,h=>by
  simp only [aF,List.mem_append] at h
  rcases h with (h|h)|h
  · split at h
    · simp at h;subst h;intro _;rfl
    · simp at h
  · exact nP ks o h
  · split at h
    · simp at h;subst h;intro hc;cases hc
    · simp at h
theorem nP:∀ (l:List Ty) (o:Occ),o∈aI l→o.row=false→o.names=[]
 | [],o,h=>by simp [aI] at h
 | t::l,o,h=>by
  simp only [aI,List.mem_append] at h
  rcases h with h|h
  · exact rc t o h
  · exact nP l o h
end
theorem Fm (s:VSt) (b:Bool):okL (d4 s b) []=(b && okL s []):=by
 show ((s.ok && b) && _)=(b && (s.ok && _))
 rw [Bool.and_comm s.ok b,Bool.and_assoc];rfl
theorem yN (t:Ty):cO t=uh t:=by
 unfold cO uh
 rw [vn,Fm]
 congr 1
 rw [Bool.eq_iff_iff,FF _ (rc t),BI]
def fG (x m:Int):Int:=if x<0 then (-(x+1)).tmod m else x.tmod m
def ao (l:List Int) (q:Nat) (m:Int):Int:=if q<l.length then fG (l.getD q 0) m else 0
def jq (l:List Int):Prop:=∀ x∈l,-9223372036854775808≤x∧x≤9223372036854775807
theorem E4 {l:List Int} (h:jq l) (i:Nat):-9223372036854775808≤l.getD i 0∧l.getD i 0≤9223372036854775807:=by
 by_cases hi:i<l.length
 · rw [List.getD_eq_getElem?_getD,List.getElem?_eq_getElem hi];exact h _ (List.getElem_mem hi)
 · rw [List.getD_eq_getElem?_getD,List.getElem?_eq_none oq];simp
theorem o4 {x m:Int} (hx:0≤x) (hm:0<m):0≤x.tmod m∧x.tmod m<m:=by
 rw [Int.tmod_eq_emod_of_nonneg hx];exact ⟨Int.emod_nonneg _ oq,Int.emod_lt_of_pos _ hm⟩
theorem yP (x m:Int) (hm:0<m):0≤fG x m∧fG x m<m:=by
 unfold fG;split
 · exact o4 oq hm
 · exact o4 oq hm
theorem d5 (l:List Int) (q:Nat) (m:Int) (hm:0<m):0≤ao l q m∧ao l q m<m:=by
 unfold ao;split
 · exact yP _ _ hm
 · omega
theorem wD {l:List Int} {q:Nat} {m:Int} (h:q<l.length):ao l q m=fG (l.getD q 0) m:=by rw [ao,if_pos h]
theorem Cq {l:List Int} {q:Nat} {m:Int} (h:¬ q<l.length):ao l q m=0:=by rw [ao,if_neg h]
noncomputable def c43:Code:=aE Tryz.f43
theorem yk  :ay cx 43 [] (.imm [.str [97],.str [98],.str [99],.str [105,100]]):=by
 refine ap (cx:=cx) 2 0 [(ResultVar.tmp 0)] Tryz.func43 rfl rfl rfl rfl rfl zq ?_
 show wpA cx 2 0 (at_ c43 []) _ _ _
 refine qZ [] [] ?_ ?_
 refine qU 1 [] ?_ ?_
 refine qU 2 [(0,.full [.str [97],.str [98],.str [99],.str [105,100]])] ?_ ?_
 refine bb kq ?_
 refine eP (l:=[.full [.str [97],.str [98],.str [99],.str [105,100]]]) (.inr rfl) kq ?_
 · exact ⟨rfl,rfl⟩
 iterate 3 kernel_rfl
noncomputable def c31:Code:=aE Tryz.f31
theorem wY (x m:Int) (hx:-9223372036854775808≤x∧x≤9223372036854775807) (hm:0<m):ay cx 31 [.int .i64 (x),.int .i64 (m)] (.int .i64 (fG x m)):=by
 refine ap (cx:=cx) 13 0 [(ResultVar.tmp 4)] Tryz.func31 rfl rfl rfl rfl rfl zq ?_
 show wpA cx 13 0 (at_ c31 []) _ _ _
 refine qZ [(0,.int .i64 (x)),(1,.int .i64 (m))] [] ?_ ?_
 refine qU 1 [(0,.int .i64 (x)),(1,.int .i64 (m))] ?_ ?_
 refine ar ?_ ?_
 refine qU 2 [(0,.int .i64 (x)),(1,.int .i64 (m)),(6,.bool (decide ((x)<0)))] ?_ ?_
 by_cases hb1:(x)<0
 refine qt (decide_eq_true hb1) ?_ ?_
 refine qo ?_ ?_
 refine qr 1 ?_ ?_
 refine qy (aN (a:=(x)) (b:=1) kq oq oq) ?_ ?_ ?_
 refine qy (I5 (a:=((x)+1)) kq oq oq) ?_ ?_ ?_
 refine qR 1 [(0,.int .i64 (-((x)+1))),(1,.int .i64 (m))] [] ?_ ?_
 refine qV 2 ?_ ?_
 refine qy (AU (a:=(-((x)+1))) (b:=(m)) kq oq) ?_ ?_ ?_
 refine qX 1 ?_ ?_
 refine b8 (n:=((-((x)+1)).tmod (m))) (.inr rfl) kq ?_
 · simp [fG, *]
 iterate 12 kernel_rfl
 refine qf (decide_eq_false hb1) ?_ ?_
 refine qK ?_ ?_
 refine qz [(0,.int .i64 (x)),(1,.int .i64 (m))] ?_ ?_
 refine qV 2 ?_ ?_
 refine qy (AU (a:=(x)) (b:=(m)) kq oq) ?_ ?_ ?_
 refine qX 1 ?_ ?_
 refine b8 (n:=((x).tmod (m))) (.inr rfl) kq ?_
 · simp [fG, *]
 iterate 11 kernel_rfl
noncomputable def c51:Code:=aE Tryz.f51
theorem iu (l:List Int) (q:Nat) (m:Int) (hl:jq l) (hm:0<m):ay cx 51 [.imm (l.map (aa.int .i64)),.int .i64 ((q:Nat):Int),.int .i64 (m)] (.int .i64 (ao l q m)):=by
 refine ap (cx:=cx) 21 0 [(ResultVar.tmp 6)] Tryz.func51 rfl rfl rfl rfl rfl zq ?_
 show wpA cx 21 0 (at_ c51 []) _ _ _
 refine qZ [(0,.imm (l.map (aa.int .i64))),(1,nI q),(2,.int .i64 (m))] [] ?_ ?_
 refine qU 1 [(0,.imm (l.map (aa.int .i64))),(1,nI q),(2,.int .i64 (m))] ?_ ?_
 refine ar ?_ ?_
 refine qV 3 ?_ ?_
 by_cases hb1:((q:Nat):Int)<0
 refine qm [8,9] (decide_eq_true hb1) ?_ ?_
 refine qR 5 [(0,.imm (l.map (aa.int .i64))),(1,nI q),(2,.int .i64 (m)),(14,.bool true)] [] ?_ ?_
 refine cp kq kq ?_
 refine qV 1 ?_ ?_
 refine qT ?_ ?_
 apply aR
 refine b8 (n:=0) (.inr rfl) kq ?_
 rotate_left
 iterate 4 kernel_rfl
 refine qm [8,9] (decide_eq_false hb1) ?_ ?_
 refine qr 2 ?_ ?_
 refine qy (au (l:=l) (enc:=(aa.int .i64)) kq ff) ?_ ?_ ?_
 refine qR 2 [(0,.imm (l.map (aa.int .i64))),(1,nI q),(2,.int .i64 (m)),(14,.bool (decide (((q:Nat):Int) ≥ ((l.length:Nat):Int))))] [] ?_ ?_
 by_cases hb2:((q:Nat):Int) ≥ ((l.length:Nat):Int)
 refine qt (decide_eq_true hb2) ?_ ?_
 refine qV 1 ?_ ?_
 refine qT ?_ ?_
 apply aR
 refine b8 (n:=0) (.inr rfl) kq ?_
 rotate_left
 iterate 3 kernel_rfl
 refine qf (decide_eq_false hb2) ?_ ?_
 refine qK ?_ ?_
 refine qz [(0,.imm (l.map (aa.int .i64))),(1,nI q),(2,.int .i64 (m))] ?_ ?_
 refine qV 2 ?_ ?_
 refine qy (ax (k:=.i64) (l:=l) (enc:=(aa.int .i64)) (i:=((q:Nat):Int)) 0 kq ff ty3 (fun _=>rfl) oq oq) ?_ ?_ ?_
 refine qr 2 ?_ ?_
 refine qc [.int .i64 ((l.getD q 0)),.int .i64 (m)] (wY ((l.getD q 0)) (m) (E4 hl _) oq) ?_ ?_
 refine qX 1 ?_ ?_
 refine b8 (n:=(fG ((l.getD q 0)) (m))) (.inr rfl) kq ?_
 rotate_left
 iterate 18 kernel_rfl
 all_goals
  first|(exfalso;omega)|(rw [wD oq];done)|(rw [wD oq];simp;done)|(rw [Cq oq];done)
theorem Ad (l:List (List UInt8)) (s:List UInt8):-1≤aQ l s∧aQ l s<(l.length:Nat)∨l=[]∧aQ l s=-1:=by
 unfold aQ
 split
 · rename_i i hi
   obtain ⟨h1,_⟩:=List.findIdx?_eq_some_iff_getElem.1 hi
   left;omega
 · cases l with
   | nil=>right;exact ⟨rfl,rfl⟩
   | cons=>left;simp;omega
theorem Cz {p:Prop} (h:p:=by simpa [aa.bel] using h):p:=h
mutual
theorem ju:∀ x:aa,x.bel 0=true→x.refs=[]
 | .agg cs,h=>by simp only [aa.refs];exact cT cs Cz
 | .tup cs,h=>by simp only [aa.refs];exact cT cs Cz
 | .pimm cs _,h=>by simp only [aa.refs];exact cT cs Cz
 | .imm l,h=>by simp only [aa.refs];exact cT l Cz
 | .full l,h=>by simp only [aa.refs];exact cT l Cz
 | .fn f xs ys,h=>by
  simp only [aa.bel,Bool.and_eq_true] at h
  simp only [aa.refs,cT xs h.1,cT ys h.2,List.append_nil]
 | .iface t v,h=>by simp only [aa.refs];exact ju v Cz
 | .ptr o _,h=>by simp [aa.bel] at h
 | .pown o _ _ _,h=>by simp [aa.bel] at h
 | .own o _ _,h=>by simp [aa.bel] at h
 | .map o,h=>by simp [aa.bel] at h
 | .itr o,h=>by simp [aa.bel] at h
 | .any,_=>rfl
 | .bool _,_=>rfl
 | .int _ _,_=>rfl
 | .str _,_=>rfl
 | .nilp,_=>rfl
 | .nilm,_=>rfl
 | .nilfn,_=>rfl
 | .nili,_=>rfl
theorem cT:∀ l:List aa,bP 0 l=true→cY l=[]
 | [],_=>rfl
 | x::l,h=>by
  simp only [bP,Bool.and_eq_true] at h
  simp only [cY,ju x h.1,cT l h.2,List.append_nil]
end
@[simp] theorem HT (l:List (List UInt8)):cY (l.map .str)=[]:=cT _ zq
@[simp] theorem I2 (l:List Ty):cY (l.map Ty.enc)=[]:=cT _ zq
@[simp] theorem HP (l:List Int):cY (l.map (.int .i64))=[]:=cT _ zq
@[simp] theorem H9 (r:Nat→Nat) (l:List (List UInt8)):bV r (l.map .str)=l.map .str:=cI _ _ zq
@[simp] theorem Jq (r:Nat→Nat) (l:List Ty):bV r (l.map Ty.enc)=l.map Ty.enc:=cI _ _ zq
@[simp] theorem HX (r:Nat→Nat) (l:List Int):bV r (l.map (.int .i64))=l.map (.int .i64):=cI _ _ zq
def gS (l:List (List UInt8)) (s:List UInt8):Nat:=(l.takeWhile (fun x=>aY x s)).length
def oG (t:Ty) (s:List UInt8):List (List UInt8):=t.names.take (gS t.names s)++[s]++t.names.drop (gS t.names s)
def jF (t:Ty) (s:List UInt8) (x:Ty):List Ty:=t.kids.take (gS t.names s)++[x]++t.kids.drop (gS t.names s)
def me (t:Ty) (s:List UInt8) (x:Ty):Ty:=.mk 5 [] t.n (oG t s) (jF t s x)
def xn (t:Ty):aa:=.agg [.int .i64 t.kind,.str t.name,.int .i64 t.n,.imm (t.names.map .str),.own 0 0 t.kids.length]
def xG (t:Ty):ac:=[.arr 5 (t.kids.map Ty.enc) 0]
theorem pT (t:Ty) (s:List UInt8) (x:Ty):xn (me t s x)=.agg [.int .i64 5,.str [],.int .i64 t.n,.imm ((oG t s).map .str),.own 0 0 (jF t s x).length]:=rfl
theorem lK (t:Ty) (s:List UInt8) (x:Ty):xG (me t s x)=[.arr 5 ((jF t s x).map Ty.enc) 0]:=rfl
theorem pY:∀ (l:List (List UInt8)) (s:List UInt8) (k:Nat),(∀ i,i<k→aY (l.getD i []) s=true)→k≤l.length→(k<l.length→aY (l.getD k []) s=false)→gS l s=k
 | [],s,k,h,hk,_=>by simp at hk;subst hk;rfl
 | x::l,s,0,h,hk,hs=>by
  have:=hs zq
  simp at this
  simp [gS,List.takeWhile,this]
 | x::l,s,k+1,h,hk,hs=>by
  have h0:=h 0 oq
  simp at h0
  have:=pY l s k (fun i hi=>by have:=h (i+1) oq;simpa using this) (by simpa using hk) (fun hlt=>by have:=hs (by simpa using hlt);simpa using this)
  simp [gS,List.takeWhile,h0] at this ⊢
  exact this
noncomputable def c53:Code:=aE Tryz.f53
theorem fL {p:Prop} (h:p:=by simp only [List.length_append,List.length_take,List.length_drop,List.length_cons,List.length_nil];omega):p:=h
theorem xD {p:Prop} (h:p:=by simp [-List.map_append,-List.map_take,-List.map_drop,-List.append_assoc,aa.refs,cY,ai.refs,ai.isIter,kZ,Abs.renT,ee,lh,ai.ren,aa.ren,bV,List.idxOf_cons]):p:=h
theorem Iq {p:Prop} (h:p:=by simp [ai.belO,-List.map_append,-List.map_take,-List.map_drop,-List.append_assoc]):p:=h
theorem IV {p:Prop} (h:p:=by simp [aK,-List.map_append,-List.map_take,-List.map_drop,-List.append_assoc]):p:=h
theorem Fz (t x:Ty) (s:List UInt8) (hs:t.sz<100000000) (hx:x.sz<100000000) (hnk:t.names.length=t.kids.length):av cx 53 [Ty.v t,.str s,Ty.v x] [] (fun v h=>v=xn (me t s x)∧h=xG (me t s x)):=by
 have hz1:=bK t
 have hz2:=ct t
 refine dF (cx:=cx) 61 0 [(ResultVar.cell 6 25)] Tryz.func53 rfl rfl rfl rfl rfl zq ?_
 show wpA cx 61 0 (at_ c53 []) _ _ _
 refine qZ [(0,Ty.v t),(1,.str s),(2,Ty.v x)] [] ?_ ?_
 refine qW 3 [(1,.str s),(3,.ptr 0 0),(5,.ptr 1 0),(6,.ptr 2 0)] [t.bx,x.bx,.box zC] ?_ ?_
 refine qU 1 [(1,.str s),(3,.ptr 0 0),(5,.ptr 1 0),(6,.ptr 2 0),(7,.int .i64 0)] ?_ ?_
 refine ar ?_ ?_
 refine qB 0 ?_ ?_ ?_
 refine bR (σ:=Nat) (fun k=>[(1,.str s),(3,.ptr 0 0),(5,.ptr 1 0),(6,.ptr 2 0),(7,.int .i64 ((k:Nat):Int))]) (fun k=>[t.bx,x.bx,.box zC]) (fun k=>k≤t.names.length∧∀ i,i<k→aY (t.names.getD i []) s=true) (fun k=>t.names.length - k) 0 kq zq ⟨⟨kq,kq,kq,kq,kq,trivial⟩,by simp [aV,aa.bel],by simp,kq,by simp [ai.belO]⟩ ?_
 rintro k ⟨hk,ha⟩
 refine ar ?_ ?_
 refine qV 3 ?_ ?_
 refine qy (au (l:=t.names) (enc:=aa.str) kq bi) ?_ ?_ ?_
 refine qr 2 ?_ ?_
 by_cases hb1:((k:Nat):Int)<((t.names.length:Nat):Int)
 refine qm [13,14] (decide_eq_true hb1) ?_ ?_
 refine qr 3 ?_ ?_
 refine qy (ax (k:=.i64) (l:=t.names) (enc:=aa.str) (i:=((k:Nat):Int)) [] kq bi ty9 (fun _=>rfl) oq oq) ?_ ?_ ?_
 refine qR 4 [(1,.str s),(3,.ptr 0 0),(5,.ptr 1 0),(6,.ptr 2 0),(7,nI k),(15,.ptr 0 3),(16,.imm (t.names.map aa.str)),(17,nI k),(18,.pimm [.str (t.names.getD k [])] 0),(19,.str (t.names.getD k [])),(20,.str s),(21,.bool (aY (t.names.getD k []) s)),(22,.bool (aY (t.names.getD k []) s))] [t.bx,x.bx,.box zC] ?_ ?_
 by_cases hb2:(aY (t.names.getD k []) s)=true
 refine qt (hb2) ?_ ?_
 refine qK ?_ ?_
 refine qz [(1,.str s),(3,.ptr 0 0),(5,.ptr 1 0),(6,.ptr 2 0),(7,nI k),(15,.ptr 0 3),(16,.imm (t.names.map aa.str)),(17,nI k),(18,.pimm [.str (t.names.getD k [])] 0),(19,.str (t.names.getD k [])),(20,.str s),(21,.bool (aY (t.names.getD k []) s))] ?_ ?_
 refine qB 1 ?_ ?_ ?_
 refine qo ?_ ?_
 refine qr 1 ?_ ?_
 refine qy (aN (a:=((k:Nat):Int)) (b:=1) kq oq oq) ?_ ?_ ?_
 refine qr 1 ?_ ?_
 refine qe ?_ ?_
 refine ak ?_
 refine ab ⟨k+1,?_,?_,⟨⟨kq,kq,kq,kq,kq,trivial⟩,by simp [aV,aa.bel],by simp,kq,by simp [ai.belO]⟩⟩
 · omega
 · refine ⟨by omega,fun i hi=>?_⟩
   rcases Nat.lt_succ_iff_lt_or_eq.1 hi with h|h
   · exact ha i h
   · subst h;assumption
 iterate 11 kernel_rfl
 refine qf (Bool.eq_false_iff.2 hb2) ?_ ?_
 refine bC 0 kq kq ?_
 refine af ?_
 refine af ?_
 refine aA ?_
 refine ab ?_
 refine qz [(1,.str s),(3,.ptr 0 0),(5,.ptr 1 0),(6,.ptr 2 0),(7,nI k)] ?_ ?_
 refine qW 5 [(1,.str s),(3,.ptr 0 0),(5,.ptr 1 0),(6,.ptr 2 0),(7,nI k),(8,.ptr 3 0)] [t.bx,x.bx,.box zC,.box [.int .i64 5,.str [],.int .i64 (t.n),.full [],.full []]] ?_ ?_
 refine mo 3 3 1 (cs:=[.int .i64 5,.str [],.int .i64 (t.n),.full [],.full []]) [.int .i64 5,.str [],.int .i64 (t.n),.own 4 0 0,.full []] dq kq kq kq ?_
 refine mo 3 4 5 (cs:=[.int .i64 5,.str [],.int .i64 (t.n),.own 4 0 0,.full []]) [.int .i64 5,.str [],.int .i64 (t.n),.own 4 0 0,.own 5 0 0] dq kq kq kq ?_
 refine qZ [(1,.str s),(3,.ptr 0 0),(5,.ptr 1 0),(6,.ptr 2 0),(7,nI k),(8,.ptr 3 0)] [t.bx,x.bx,.box zC,.box [.int .i64 5,.str [],.int .i64 (t.n),.own 4 0 0,.own 5 0 0],.arr 1 (([]:List (List UInt8)).map aa.str) 0,.arr 5 (([]:List (Ty)).map Ty.enc) 0] ?_ ?_
 refine ar ?_ ?_
 refine cK cxM kq aB (bv ?_)
 refine qu 5 ?_ ?_
 refine qd (fe (lo:=none) (hi:=(some (.int .i64 ((k:Nat):Int)))) (l:=t.names) (enc:=aa.str) (x:=0) (y:=((k:Nat):Int)) kq bi ty9 (fun _=>rfl) kq kq oq oq oq) ?_ ?_ ?_ ?_
 refine qD (bh (o:=4) (len:=0) (l:=([]:List (List UInt8))) (xs:=((t.names.take k).drop 0)) (enc:=aa.str) (sz:=1) (fr:=0) (x:=(.imm (((t.names.take k).drop 0).map aa.str))) kq bi ty9 bi rfl kq rfl rfl kq ⟨by decide,by kernel_rfl⟩ (fun _=>rfl) fL fL) ?_ ?_ ?_ ?_
 refine qu 2 ?_ ?_
 refine qD (bh (o:=4) (len:=((([]:List (List UInt8))++((t.names.take k).drop 0)).length)) (l:=(([]:List (List UInt8))++((t.names.take k).drop 0))) (xs:=[s]) (enc:=aa.str) (sz:=1) (fr:=0) (x:=(.full [.str s])) kq bi ty9 bi rfl kq rfl rfl kq ⟨by decide,by kernel_rfl⟩ (fun _=>rfl) fL fL) ?_ ?_ ?_ ?_
 refine qu 3 ?_ ?_
 refine qd (fe (lo:=(some (.int .i64 ((k:Nat):Int)))) (hi:=none) (l:=t.names) (enc:=aa.str) (x:=((k:Nat):Int)) (y:=((t.names.length:Nat):Int)) kq bi ty9 (fun _=>rfl) kq kq oq oq oq) ?_ ?_ ?_ ?_
 refine qD (bh (o:=4) (len:=(((([]:List (List UInt8))++((t.names.take k).drop 0))++[s]).length)) (l:=((([]:List (List UInt8))++((t.names.take k).drop 0))++[s])) (xs:=((t.names.take t.names.length).drop k)) (enc:=aa.str) (sz:=1) (fr:=0) (x:=(.imm (((t.names.take t.names.length).drop k).map aa.str))) kq bi ty9 bi rfl kq rfl rfl kq ⟨by decide,by kernel_rfl⟩ (fun _=>rfl) fL fL) ?_ ?_ ?_ ?_
 refine qu 2 ?_ ?_
 refine cn kq ⟨kq,?_⟩
 refine ab ?_
 refine qZ [(3,.ptr 0 0),(5,.ptr 1 0),(6,.ptr 2 0),(7,nI k),(8,.ptr 3 0)] [t.bx,x.bx,.box zC,.box [.int .i64 5,.str [],.int .i64 (t.n),.own 4 0 (((([]:List (List UInt8))++((t.names.take k).drop 0))++[s])++((t.names.take t.names.length).drop k)).length,.own 5 0 0],.arr 1 ((((([]:List (List UInt8))++((t.names.take k).drop 0))++[s])++((t.names.take t.names.length).drop k)).map aa.str) 0,.arr 5 (([]:List (Ty)).map Ty.enc) 0] ?_ ?_
 refine ar ?_ ?_
 refine cK cxM kq aB (bv ?_)
 refine qu 5 ?_ ?_
 refine qd (fe (lo:=none) (hi:=(some (.int .i64 ((k:Nat):Int)))) (l:=t.kids) (enc:=Ty.enc) (x:=0) (y:=((k:Nat):Int)) kq bf bX bg kq kq oq oq oq) ?_ ?_ ?_ ?_
 refine qD (bh (o:=5) (len:=0) (l:=([]:List (Ty))) (xs:=((t.kids.take k).drop 0)) (enc:=Ty.enc) (sz:=5) (fr:=0) (x:=(.imm (((t.kids.take k).drop 0).map Ty.enc))) kq bf bX bf rfl kq rfl rfl kq ⟨by decide,by kernel_rfl⟩ gQ fL fL) ?_ ?_ ?_ ?_
 refine qu 2 ?_ ?_
 refine qD (bh (o:=5) (len:=((([]:List (Ty))++((t.kids.take k).drop 0)).length)) (l:=(([]:List (Ty))++((t.kids.take k).drop 0))) (xs:=[x]) (enc:=Ty.enc) (sz:=5) (fr:=0) (x:=(.full [.agg [.int .i64 (x.kind),.str x.name,.int .i64 (x.n),.imm (x.names.map aa.str),.imm (x.kids.map Ty.enc)]])) kq bf bX bf rfl kq rfl rfl (Eq.trans (b:=some [Ty.v x]) kq (by simp [Ty.enc_v])) ⟨by decide,by kernel_rfl⟩ gQ fL fL) ?_ ?_ ?_ ?_
 refine qu 3 ?_ ?_
 refine qd (fe (lo:=(some (.int .i64 ((k:Nat):Int)))) (hi:=none) (l:=t.kids) (enc:=Ty.enc) (x:=((k:Nat):Int)) (y:=((t.kids.length:Nat):Int)) kq bf bX bg kq kq oq oq oq) ?_ ?_ ?_ ?_
 refine qD (bh (o:=5) (len:=(((([]:List (Ty))++((t.kids.take k).drop 0))++[x]).length)) (l:=((([]:List (Ty))++((t.kids.take k).drop 0))++[x])) (xs:=((t.kids.take t.kids.length).drop k)) (enc:=Ty.enc) (sz:=5) (fr:=0) (x:=(.imm (((t.kids.take t.kids.length).drop k).map Ty.enc))) kq bf bX bf rfl kq rfl rfl kq ⟨by decide,by kernel_rfl⟩ gQ fL fL) ?_ ?_ ?_ ?_
 refine qu 2 ?_ ?_
 refine cn kq ⟨kq,?_⟩
 refine ab ?_
 refine qZ [(6,.ptr 2 0),(8,.ptr 3 0)] [t.bx,x.bx,.box zC,.box [.int .i64 5,.str [],.int .i64 (t.n),.own 4 0 (((([]:List (List UInt8))++((t.names.take k).drop 0))++[s])++((t.names.take t.names.length).drop k)).length,.own 5 0 (((([]:List (Ty))++((t.kids.take k).drop 0))++[x])++((t.kids.take t.kids.length).drop k)).length],.arr 1 ((((([]:List (List UInt8))++((t.names.take k).drop 0))++[s])++((t.names.take t.names.length).drop k)).map aa.str) 0,.arr 5 ((((([]:List (Ty))++((t.kids.take k).drop 0))++[x])++((t.kids.take t.kids.length).drop k)).map Ty.enc) 0] ?_ ?_
 refine sD 3 3 4 (cs:=[.int .i64 5,.str [],.int .i64 (t.n),.own 4 0 (((([]:List (List UInt8))++((t.names.take k).drop 0))++[s])++((t.names.take t.names.length).drop k)).length,.own 5 0 (((([]:List (Ty))++((t.kids.take k).drop 0))++[x])++((t.kids.take t.kids.length).drop k)).length]) (es:=((((([]:List (List UInt8))++((t.names.take k).drop 0))++[s])++((t.names.take t.names.length).drop k)).map aa.str)) (off:=0) (len:=((((([]:List (List UInt8))++((t.names.take k).drop 0))++[s])++((t.names.take t.names.length).drop k)).length)) (sz:=1) (fr:=0) [.int .i64 5,.str [],.int .i64 (t.n),.imm ((((([]:List (List UInt8))++((t.names.take k).drop 0))++[s])++((t.names.take t.names.length).drop k)).map aa.str),.own 5 0 (((([]:List (Ty))++((t.kids.take k).drop 0))++[x])++((t.kids.take t.kids.length).drop k)).length] ((((([]:List (List UInt8))++((t.names.take k).drop 0))++[s])++((t.names.take t.names.length).drop k)).map aa.str) dq kq kq kq zq kq kq ?_
 refine qZ [(6,.ptr 2 0),(8,.ptr 3 0)] [t.bx,x.bx,.box zC,.box [.int .i64 5,.str [],.int .i64 (t.n),.imm ((((([]:List (List UInt8))++((t.names.take k).drop 0))++[s])++((t.names.take t.names.length).drop k)).map aa.str),.own 5 0 (((([]:List (Ty))++((t.kids.take k).drop 0))++[x])++((t.kids.take t.kids.length).drop k)).length],.arr 1 ((((([]:List (List UInt8))++((t.names.take k).drop 0))++[s])++((t.names.take t.names.length).drop k)).map aa.str) ((((([]:List (List UInt8))++((t.names.take k).drop 0))++[s])++((t.names.take t.names.length).drop k)).map aa.str).length,.arr 5 ((((([]:List (Ty))++((t.kids.take k).drop 0))++[x])++((t.kids.take t.kids.length).drop k)).map Ty.enc) 0] ?_ ?_
 refine qW 2 [(6,.ptr 2 0)] [t.bx,x.bx,.box [.int .i64 5,.str [],.int .i64 (t.n),.imm ((((([]:List (List UInt8))++((t.names.take k).drop 0))++[s])++((t.names.take t.names.length).drop k)).map aa.str),.own 5 0 (((([]:List (Ty))++((t.kids.take k).drop 0))++[x])++((t.kids.take t.kids.length).drop k)).length],.box [.int .i64 5,.str [],.int .i64 (t.n),.imm ((((([]:List (List UInt8))++((t.names.take k).drop 0))++[s])++((t.names.take t.names.length).drop k)).map aa.str),.own 5 0 (((([]:List (Ty))++((t.kids.take k).drop 0))++[x])++((t.kids.take t.kids.length).drop k)).length],.arr 1 ((((([]:List (List UInt8))++((t.names.take k).drop 0))++[s])++((t.names.take t.names.length).drop k)).map aa.str) ((((([]:List (List UInt8))++((t.names.take k).drop 0))++[s])++((t.names.take t.names.length).drop k)).map aa.str).length,.arr 5 ((((([]:List (Ty))++((t.kids.take k).drop 0))++[x])++((t.kids.take t.kids.length).drop k)).map Ty.enc) 0] ?_ ?_
 refine iB [5,2] [(6,.ptr 1 0)] [.arr 5 ((((([]:List (Ty))++((t.kids.take k).drop 0))++[x])++((t.kids.take t.kids.length).drop k)).map Ty.enc) 0,.box [.int .i64 5,.str [],.int .i64 (t.n),.imm ((((([]:List (List UInt8))++((t.names.take k).drop 0))++[s])++((t.names.take t.names.length).drop k)).map aa.str),.own 0 0 (((([]:List (Ty))++((t.kids.take k).drop 0))++[x])++((t.kids.take t.kids.length).drop k)).length]] dq xD xD xD xD ?_
 refine qZ [(6,.ptr 1 0)] [.arr 5 ((((([]:List (Ty))++((t.kids.take k).drop 0))++[x])++((t.kids.take t.kids.length).drop k)).map Ty.enc) 0,.box [.int .i64 5,.str [],.int .i64 (t.n),.imm ((((([]:List (List UInt8))++((t.names.take k).drop 0))++[s])++((t.names.take t.names.length).drop k)).map aa.str),.own 0 0 (((([]:List (Ty))++((t.kids.take k).drop 0))++[x])++((t.kids.take t.kids.length).drop k)).length]] ?_ ?_
 refine bb kq ?_
 refine dV (l:=[.agg [.int .i64 5,.str [],.int .i64 (t.n),.imm ((((([]:List (List UInt8))++((t.names.take k).drop 0))++[s])++((t.names.take t.names.length).drop k)).map aa.str),.own 0 0 (((([]:List (Ty))++((t.kids.take k).drop 0))++[x])++((t.kids.take t.kids.length).drop k)).length]]) 1 [.arr 5 ((((([]:List (Ty))++((t.kids.take k).drop 0))++[x])++((t.kids.take t.kids.length).drop k)).map Ty.enc) 0] (.inr rfl) kq (Nat.zero_le _) kq IV Iq ?_
 rotate_left
 iterate 54 kernel_rfl
 refine qm [13,14] (decide_eq_false hb1) ?_ ?_
 refine qR 8 [(1,.str s),(3,.ptr 0 0),(5,.ptr 1 0),(6,.ptr 2 0),(7,nI k),(15,.tup []),(16,.tup []),(17,.tup []),(18,.tup []),(19,.tup []),(20,.tup []),(21,.tup []),(22,.bool false)] [t.bx,x.bx,.box zC] ?_ ?_
 refine dY kq kq ?_
 refine bC 0 kq kq ?_
 refine af ?_
 refine af ?_
 refine aA ?_
 refine ab ?_
 refine qz [(1,.str s),(3,.ptr 0 0),(5,.ptr 1 0),(6,.ptr 2 0),(7,nI k)] ?_ ?_
 refine qW 5 [(1,.str s),(3,.ptr 0 0),(5,.ptr 1 0),(6,.ptr 2 0),(7,nI k),(8,.ptr 3 0)] [t.bx,x.bx,.box zC,.box [.int .i64 5,.str [],.int .i64 (t.n),.full [],.full []]] ?_ ?_
 refine mo 3 3 1 (cs:=[.int .i64 5,.str [],.int .i64 (t.n),.full [],.full []]) [.int .i64 5,.str [],.int .i64 (t.n),.own 4 0 0,.full []] dq kq kq kq ?_
 refine mo 3 4 5 (cs:=[.int .i64 5,.str [],.int .i64 (t.n),.own 4 0 0,.full []]) [.int .i64 5,.str [],.int .i64 (t.n),.own 4 0 0,.own 5 0 0] dq kq kq kq ?_
 refine qZ [(1,.str s),(3,.ptr 0 0),(5,.ptr 1 0),(6,.ptr 2 0),(7,nI k),(8,.ptr 3 0)] [t.bx,x.bx,.box zC,.box [.int .i64 5,.str [],.int .i64 (t.n),.own 4 0 0,.own 5 0 0],.arr 1 (([]:List (List UInt8)).map aa.str) 0,.arr 5 (([]:List (Ty)).map Ty.enc) 0] ?_ ?_
 refine ar ?_ ?_
 refine cK cxM kq aB (bv ?_)
 refine qu 5 ?_ ?_
 refine qd (fe (lo:=none) (hi:=(some (.int .i64 ((k:Nat):Int)))) (l:=t.names) (enc:=aa.str) (x:=0) (y:=((k:Nat):Int)) kq bi ty9 (fun _=>rfl) kq kq oq oq oq) ?_ ?_ ?_ ?_
 refine qD (bh (o:=4) (len:=0) (l:=([]:List (List UInt8))) (xs:=((t.names.take k).drop 0)) (enc:=aa.str) (sz:=1) (fr:=0) (x:=(.imm (((t.names.take k).drop 0).map aa.str))) kq bi ty9 bi rfl kq rfl rfl kq ⟨by decide,by kernel_rfl⟩ (fun _=>rfl) fL fL) ?_ ?_ ?_ ?_
 refine qu 2 ?_ ?_
 refine qD (bh (o:=4) (len:=((([]:List (List UInt8))++((t.names.take k).drop 0)).length)) (l:=(([]:List (List UInt8))++((t.names.take k).drop 0))) (xs:=[s]) (enc:=aa.str) (sz:=1) (fr:=0) (x:=(.full [.str s])) kq bi ty9 bi rfl kq rfl rfl kq ⟨by decide,by kernel_rfl⟩ (fun _=>rfl) fL fL) ?_ ?_ ?_ ?_
 refine qu 3 ?_ ?_
 refine qd (fe (lo:=(some (.int .i64 ((k:Nat):Int)))) (hi:=none) (l:=t.names) (enc:=aa.str) (x:=((k:Nat):Int)) (y:=((t.names.length:Nat):Int)) kq bi ty9 (fun _=>rfl) kq kq oq oq oq) ?_ ?_ ?_ ?_
 refine qD (bh (o:=4) (len:=(((([]:List (List UInt8))++((t.names.take k).drop 0))++[s]).length)) (l:=((([]:List (List UInt8))++((t.names.take k).drop 0))++[s])) (xs:=((t.names.take t.names.length).drop k)) (enc:=aa.str) (sz:=1) (fr:=0) (x:=(.imm (((t.names.take t.names.length).drop k).map aa.str))) kq bi ty9 bi rfl kq rfl rfl kq ⟨by decide,by kernel_rfl⟩ (fun _=>rfl) fL fL) ?_ ?_ ?_ ?_
 refine qu 2 ?_ ?_
 refine cn kq ⟨kq,?_⟩
 refine ab ?_
 refine qZ [(3,.ptr 0 0),(5,.ptr 1 0),(6,.ptr 2 0),(7,nI k),(8,.ptr 3 0)] [t.bx,x.bx,.box zC,.box [.int .i64 5,.str [],.int .i64 (t.n),.own 4 0 (((([]:List (List UInt8))++((t.names.take k).drop 0))++[s])++((t.names.take t.names.length).drop k)).length,.own 5 0 0],.arr 1 ((((([]:List (List UInt8))++((t.names.take k).drop 0))++[s])++((t.names.take t.names.length).drop k)).map aa.str) 0,.arr 5 (([]:List (Ty)).map Ty.enc) 0] ?_ ?_
 refine ar ?_ ?_
 refine cK cxM kq aB (bv ?_)
 refine qu 5 ?_ ?_
 refine qd (fe (lo:=none) (hi:=(some (.int .i64 ((k:Nat):Int)))) (l:=t.kids) (enc:=Ty.enc) (x:=0) (y:=((k:Nat):Int)) kq bf bX bg kq kq oq oq oq) ?_ ?_ ?_ ?_
 refine qD (bh (o:=5) (len:=0) (l:=([]:List (Ty))) (xs:=((t.kids.take k).drop 0)) (enc:=Ty.enc) (sz:=5) (fr:=0) (x:=(.imm (((t.kids.take k).drop 0).map Ty.enc))) kq bf bX bf rfl kq rfl rfl kq ⟨by decide,by kernel_rfl⟩ gQ fL fL) ?_ ?_ ?_ ?_
 refine qu 2 ?_ ?_
 refine qD (bh (o:=5) (len:=((([]:List (Ty))++((t.kids.take k).drop 0)).length)) (l:=(([]:List (Ty))++((t.kids.take k).drop 0))) (xs:=[x]) (enc:=Ty.enc) (sz:=5) (fr:=0) (x:=(.full [.agg [.int .i64 (x.kind),.str x.name,.int .i64 (x.n),.imm (x.names.map aa.str),.imm (x.kids.map Ty.enc)]])) kq bf bX bf rfl kq rfl rfl (Eq.trans (b:=some [Ty.v x]) kq (by simp [Ty.enc_v])) ⟨by decide,by kernel_rfl⟩ gQ fL fL) ?_ ?_ ?_ ?_
 refine qu 3 ?_ ?_
 refine qd (fe (lo:=(some (.int .i64 ((k:Nat):Int)))) (hi:=none) (l:=t.kids) (enc:=Ty.enc) (x:=((k:Nat):Int)) (y:=((t.kids.length:Nat):Int)) kq bf bX bg kq kq oq oq oq) ?_ ?_ ?_ ?_
 refine qD (bh (o:=5) (len:=(((([]:List (Ty))++((t.kids.take k).drop 0))++[x]).length)) (l:=((([]:List (Ty))++((t.kids.take k).drop 0))++[x])) (xs:=((t.kids.take t.kids.length).drop k)) (enc:=Ty.enc) (sz:=5) (fr:=0) (x:=(.imm (((t.kids.take t.kids.length).drop k).map Ty.enc))) kq bf bX bf rfl kq rfl rfl kq ⟨by decide,by kernel_rfl⟩ gQ fL fL) ?_ ?_ ?_ ?_
 refine qu 2 ?_ ?_
 refine cn kq ⟨kq,?_⟩
 refine ab ?_
 refine qZ [(6,.ptr 2 0),(8,.ptr 3 0)] [t.bx,x.bx,.box zC,.box [.int .i64 5,.str [],.int .i64 (t.n),.own 4 0 (((([]:List (List UInt8))++((t.names.take k).drop 0))++[s])++((t.names.take t.names.length).drop k)).length,.own 5 0 (((([]:List (Ty))++((t.kids.take k).drop 0))++[x])++((t.kids.take t.kids.length).drop k)).length],.arr 1 ((((([]:List (List UInt8))++((t.names.take k).drop 0))++[s])++((t.names.take t.names.length).drop k)).map aa.str) 0,.arr 5 ((((([]:List (Ty))++((t.kids.take k).drop 0))++[x])++((t.kids.take t.kids.length).drop k)).map Ty.enc) 0] ?_ ?_
 refine sD 3 3 4 (cs:=[.int .i64 5,.str [],.int .i64 (t.n),.own 4 0 (((([]:List (List UInt8))++((t.names.take k).drop 0))++[s])++((t.names.take t.names.length).drop k)).length,.own 5 0 (((([]:List (Ty))++((t.kids.take k).drop 0))++[x])++((t.kids.take t.kids.length).drop k)).length]) (es:=((((([]:List (List UInt8))++((t.names.take k).drop 0))++[s])++((t.names.take t.names.length).drop k)).map aa.str)) (off:=0) (len:=((((([]:List (List UInt8))++((t.names.take k).drop 0))++[s])++((t.names.take t.names.length).drop k)).length)) (sz:=1) (fr:=0) [.int .i64 5,.str [],.int .i64 (t.n),.imm ((((([]:List (List UInt8))++((t.names.take k).drop 0))++[s])++((t.names.take t.names.length).drop k)).map aa.str),.own 5 0 (((([]:List (Ty))++((t.kids.take k).drop 0))++[x])++((t.kids.take t.kids.length).drop k)).length] ((((([]:List (List UInt8))++((t.names.take k).drop 0))++[s])++((t.names.take t.names.length).drop k)).map aa.str) dq kq kq kq zq kq kq ?_
 refine qZ [(6,.ptr 2 0),(8,.ptr 3 0)] [t.bx,x.bx,.box zC,.box [.int .i64 5,.str [],.int .i64 (t.n),.imm ((((([]:List (List UInt8))++((t.names.take k).drop 0))++[s])++((t.names.take t.names.length).drop k)).map aa.str),.own 5 0 (((([]:List (Ty))++((t.kids.take k).drop 0))++[x])++((t.kids.take t.kids.length).drop k)).length],.arr 1 ((((([]:List (List UInt8))++((t.names.take k).drop 0))++[s])++((t.names.take t.names.length).drop k)).map aa.str) ((((([]:List (List UInt8))++((t.names.take k).drop 0))++[s])++((t.names.take t.names.length).drop k)).map aa.str).length,.arr 5 ((((([]:List (Ty))++((t.kids.take k).drop 0))++[x])++((t.kids.take t.kids.length).drop k)).map Ty.enc) 0] ?_ ?_
 refine qW 2 [(6,.ptr 2 0)] [t.bx,x.bx,.box [.int .i64 5,.str [],.int .i64 (t.n),.imm ((((([]:List (List UInt8))++((t.names.take k).drop 0))++[s])++((t.names.take t.names.length).drop k)).map aa.str),.own 5 0 (((([]:List (Ty))++((t.kids.take k).drop 0))++[x])++((t.kids.take t.kids.length).drop k)).length],.box [.int .i64 5,.str [],.int .i64 (t.n),.imm ((((([]:List (List UInt8))++((t.names.take k).drop 0))++[s])++((t.names.take t.names.length).drop k)).map aa.str),.own 5 0 (((([]:List (Ty))++((t.kids.take k).drop 0))++[x])++((t.kids.take t.kids.length).drop k)).length],.arr 1 ((((([]:List (List UInt8))++((t.names.take k).drop 0))++[s])++((t.names.take t.names.length).drop k)).map aa.str) ((((([]:List (List UInt8))++((t.names.take k).drop 0))++[s])++((t.names.take t.names.length).drop k)).map aa.str).length,.arr 5 ((((([]:List (Ty))++((t.kids.take k).drop 0))++[x])++((t.kids.take t.kids.length).drop k)).map Ty.enc) 0] ?_ ?_
 refine iB [5,2] [(6,.ptr 1 0)] [.arr 5 ((((([]:List (Ty))++((t.kids.take k).drop 0))++[x])++((t.kids.take t.kids.length).drop k)).map Ty.enc) 0,.box [.int .i64 5,.str [],.int .i64 (t.n),.imm ((((([]:List (List UInt8))++((t.names.take k).drop 0))++[s])++((t.names.take t.names.length).drop k)).map aa.str),.own 0 0 (((([]:List (Ty))++((t.kids.take k).drop 0))++[x])++((t.kids.take t.kids.length).drop k)).length]] dq xD xD xD xD ?_
 refine qZ [(6,.ptr 1 0)] [.arr 5 ((((([]:List (Ty))++((t.kids.take k).drop 0))++[x])++((t.kids.take t.kids.length).drop k)).map Ty.enc) 0,.box [.int .i64 5,.str [],.int .i64 (t.n),.imm ((((([]:List (List UInt8))++((t.names.take k).drop 0))++[s])++((t.names.take t.names.length).drop k)).map aa.str),.own 0 0 (((([]:List (Ty))++((t.kids.take k).drop 0))++[x])++((t.kids.take t.kids.length).drop k)).length]] ?_ ?_
 refine bb kq ?_
 refine dV (l:=[.agg [.int .i64 5,.str [],.int .i64 (t.n),.imm ((((([]:List (List UInt8))++((t.names.take k).drop 0))++[s])++((t.names.take t.names.length).drop k)).map aa.str),.own 0 0 (((([]:List (Ty))++((t.kids.take k).drop 0))++[x])++((t.kids.take t.kids.length).drop k)).length]]) 1 [.arr 5 ((((([]:List (Ty))++((t.kids.take k).drop 0))++[x])++((t.kids.take t.kids.length).drop k)).map Ty.enc) 0] (.inr rfl) kq (Nat.zero_le _) kq IV Iq ?_
 rotate_left
 iterate 61 kernel_rfl
 all_goals
  have hput:gS t.names s=k:=pY _ _ _ ha oq (fun hlt=>by first|exact Bool.eq_false_iff.2 aq|(exfalso;omega))
  refine ⟨?_,?_⟩
  · rw [pT];simp [oG,jF,hput,aK]
  · rw [lK];simp [oG,jF,hput]
def nms:List (List UInt8):=[[97],[98],[99],[105,100]]
theorem vA:ay cx 43 [] (.imm (nms.map .str)):=yk
theorem Fy:nms.length=4:=rfl
def jv (k:Int):Ty:=if k=3 then .mk 3 [67,111,108,111,114] 0 [] [] else if k=4 then .mk 3 [83,104,97,112,101] 0 [] [] else .mk k [] 0 [] []
def mY (kid:Nat→Ty):Nat→Nat→Int→Ty→Ty
 | 0,_,_,o=>o
 | f+1,i,w,o=>mY kid f (i+1) (w.tdiv 2) (if w.tmod 2=1 then me o (nms.getD i []) (kid i) else o)
def zv:Ty:=.mk 5 [] 0 [] []
def aX (l:List Int):Nat→Nat→Ty
 | 0,q=>jv ((ao l q 8).tmod 5)
 | d+1,q=>if ao l q 8<5 then jv (ao l q 8) else if ao l q 8=5 then .mk 4 [] 0 [] [aX l d (q+1)]
  else mY (fun i=>aX l d (q+2+3 * i)) 4 0 (ao l (q+1) 16) zv
theorem zY (a b:List (List UInt8)):szS (a++b)=szS a+szS b:=by
 induction a with
 | nil=>simp [szS]
 | cons x a ih=>simp [szS,ih];omega
theorem u0 (a b:List Ty):Ty.szL (a++b)=Ty.szL a+Ty.szL b:=by
 induction a with
 | nil=>simp [Ty.szL]
 | cons x a ih=>simp [Ty.szL,ih];omega
theorem t6 (t:Ty) (s:List UInt8) (x:Ty):(me t s x).sz≤t.sz+s.length+1+x.sz+1:=by
 have e:=gP t
 have h1:szS t.names=szS (t.names.take (gS t.names s))+szS (t.names.drop (gS t.names s)):=by rw [← zY,List.take_append_drop]
 have h2:Ty.szL t.kids=Ty.szL (t.kids.take (gS t.names s))+Ty.szL (t.kids.drop (gS t.names s)):=by rw [← u0,List.take_append_drop]
 simp only [me,oG,jF,Ty.sz,zY,u0,szS,Ty.szL,List.length_nil]
 omega
theorem zW (t:Ty) (s:List UInt8) (x:Ty) (h:t.names.length=t.kids.length):(me t s x).names.length=(me t s x).kids.length:=by
 show (oG t s).length=(jF t s x).length
 simp only [oG,jF,List.length_append,List.length_take,List.length_drop,h,List.length_cons,List.length_nil]
def bd:Nat→Nat
 | 0=>20
 | n+1=>4 * (bd n+10)+20
theorem zl (i:Nat):(nms.getD i []).length≤2:=by
 match i with
 | 0=>decide
 | 1=>decide
 | 2=>decide
 | 3=>decide
 | i+4=>simp [nms]
theorem Am (kid:Nat→Ty) (b:Nat) (hk:∀ i,(kid i).sz≤b):∀ f i w o,(mY kid f i w o).sz≤o.sz+f * (b+4)
 | 0,i,w,o=>by simp [mY]
 | f+1,i,w,o=>by
  have:=Am kid b hk f (i+1) (w.tdiv 2) (if w.tmod 2=1 then me o (nms.getD i []) (kid i) else o)
  simp only [mY]
  refine Nat.le_trans this ?_
  have e:(f+1) * (b+4)=f * (b+4)+(b+4):=Nat.succ_mul _ _
  rw [e]
  split
  · have h1:=t6 o (nms.getD i []) (kid i)
    have h2:=hk i
    have h3:=zl i
    omega
  · omega
theorem wt (k:Int):(jv k).sz≤20:=by
 unfold jv;split
 · decide
 · split
   · decide
   · simp [Ty.sz,szS,Ty.szL]
theorem pI (l:List Int):∀ d q,(aX l d q).sz≤bd d
 | 0,q=>wt _
 | d+1,q=>by
  have ih:=pI l d
  have hp:20≤bd (d+1):=by simp only [bd];omega
  unfold aX
  split
  · exact Nat.le_trans (wt _) hp
  · split
    · simp only [Ty.sz,szS,Ty.szL,bd,List.length_nil];have:=ih (q+1);omega
    · have:=Am (fun i=>aX l d (q+2+3 * i)) (bd d) (fun i=>ih _) 4 0 (ao l (q+1) 16) zv
      have e:zv.sz=1:=rfl
      simp only [bd];omega
theorem rU (l:List Int) (d q:Nat) (h:d≤2):(aX l d q).sz≤10000:=by
 refine Nat.le_trans (pI l d q) ?_
 match d,h with
 | 0,_=>decide
 | 1,_=>decide
 | 2,_=>decide
def clQ (t:Ty) (v:aa) (h:ac):Prop:=(t.kind=5∧v=xn t∧h=xG t)∨(¬ t.kind=5∧v.frz h=t.v)
theorem wX (t:Ty):(xn t).frz (xG t)=t.v:=by simp [xn,xG,aa.frz,bo,Ty.v]
theorem EA {t:Ty} {v:aa} {h:ac} (hq:clQ t v h):v.frz h=t.v:=by
 rcases hq with ⟨_,rfl,rfl⟩|⟨_,h1⟩
 · exact wX t
 · exact h1
theorem pF {l:List Int} {q:Nat} {d:Int} {t:Ty} (h:av cx 13 [.imm (l.map (.int .i64)),.int .i64 (q:Nat),.int .i64 d] [] (clQ t)):ay cx 13 [.imm (l.map (.int .i64)),.int .i64 (q:Nat),.int .i64 d] t.v:=jE h (fun _ _=>EA) zq
theorem kF (kid:Nat→Ty) (i:Nat) (w:Int) (o:Ty) (h:i<4):mY kid (4 - i) i w o=mY kid (4 - (i+1)) (i+1) (w.tdiv 2) (if w.tmod 2=1 then me o (nms.getD i []) (kid i) else o):=by
 rw [show 4 - i=(4 - (i+1))+1 by omega,mY]
theorem xf {a i:Nat} (h:a≤1+i * 20000):a≤1+(i+1) * 20000:=Nat.le_trans h (Nat.add_le_add_left (Nat.mul_le_mul_right _ (Nat.le_succ i)) 1)
theorem Fv {w:Int} (h:0≤w) (h1:w<16):0≤w.tdiv 2∧w.tdiv 2<16:=by
 rw [Int.tdiv_eq_ediv_of_nonneg h];omega
theorem tU {d:Int} (h:0<d):d.toNat=(d - 1).toNat+1:=by omega
theorem Bs {l:List Int} {q:Nat} {d:Int} (h:d=0):aX l d.toNat q=jv ((ao l q 8).tmod 5):=by rw [h];rfl
theorem Cb {l:List Int} {q:Nat} {d:Int} (h:0<d) (h5:ao l q 8<5):aX l d.toNat q=jv (ao l q 8):=by rw [tU h,aX,if_pos h5]
theorem B6 {l:List Int} {q:Nat} {d:Int} (h:0<d) (h5:ao l q 8=5):aX l d.toNat q=.mk 4 [] 0 [] [aX l (d - 1).toNat (q+1)]:=by rw [tU h,aX,if_neg oq,if_pos h5]
theorem BV {l:List Int} {q:Nat} {d:Int} (h:0<d) (h5:5<ao l q 8):aX l d.toNat q=mY (fun i=>aX l (d - 1).toNat (q+2+3 * i)) 4 0 (ao l (q+1) 16) zv:=by rw [tU h,aX,if_neg oq,if_neg oq]
theorem vP {t:Ty} {v:aa} {h:ac} {k:Int} (e:t=jv k) (hk:0≤k∧k<5) (hv:v.frz h=(jv k).v):clQ t v h:=by
 subst e
 refine .inr ⟨?_,hv⟩
 unfold jv;split
 · simp [Ty.kind]
 · split
   · simp [Ty.kind]
   · simp only [Ty.kind];omega
noncomputable def c13:Code:=aE Tryz.f13
theorem nW {p:Prop} (h:p:=by simp [-List.map_append,-List.map_take,-List.map_drop,-List.append_assoc,aa.refs,cY,ai.refs,ai.isIter,kZ,Abs.renT,ee,lh,ai.ren,aa.ren,bV,List.idxOf_cons]):p:=h
theorem jj {p:Prop} (h:p:=by simp [ai.belO,-List.map_append,-List.map_take,-List.map_drop,-List.append_assoc]):p:=h
theorem jl {p:Prop} (h:p:=by simp [aK,-List.map_append,-List.map_take,-List.map_drop,-List.append_assoc]):p:=h
theorem vC {p:Prop} (h:p:=by simp [aa.frz,bo,aa.ren,bV,dB,ai.ren,bc,cb,aS,aa.owns,pT,lK,Ty.v]):p:=h
theorem GK {p:Prop} (h:p:=by simp [aK,aa.frz,bo,Ty.v,Ty.kind,Ty.name,Ty.n,Ty.names,Ty.kids,jv, *];done):p:=h
theorem A0 {p:Prop} (h:p:=by simp [Ty.v,a7]):p:=h
theorem vE (l:List Int) (q:Nat) (d:Int) (hl:jq l) (hq:(q:Int)+100 * d≤1000000) (hd:0≤d∧d≤3):av cx 13 [.imm (l.map (aa.int .i64)),.int .i64 ((q:Nat):Int),.int .i64 (d)] [] (clQ (aX l d.toNat q)):=by
 induction hN:d.toNat using Nat.strongRecOn generalizing q d with|_ N ih =>
 rw [← hN]
 have ihP:∀ q':Nat,0<d→(q':Int)+100 * (d - 1)≤1000000→ay cx 13 [.imm (l.map (.int .i64)),.int .i64 (q':Nat),.int .i64 (d - 1)] (aX l (d - 1).toNat q').v:=fun q' h1 h2=>pF (ih _ oq q' (d - 1) h2 oq rfl)
 have hnm:=Fy
 have hpk:=d5 l q 8 dq
 have htm:=o4 hpk.1 (show (0:Int)<5 by decide)
 have hsm:=fun q=>rU l (d - 1).toNat q oq
 refine dF (cx:=cx) 71 0 [(ResultVar.cell 6 25)] Tryz.func13 rfl rfl rfl rfl rfl zq ?_
 show wpA cx 71 0 (at_ c13 []) _ _ _
 refine qZ [(0,.imm (l.map (aa.int .i64))),(1,nI q),(2,.int .i64 (d))] [] ?_ ?_
 refine qW 1 [(0,.imm (l.map (aa.int .i64))),(1,nI q),(2,.int .i64 (d)),(6,.ptr 0 0)] [.box zC] ?_ ?_
 refine qV 2 ?_ ?_
 refine bp (args:=[.imm (l.map (aa.int .i64)),.int .i64 ((q:Nat):Int),.int .i64 8]) kq kq kq kq (iu l q 8 oq oq) (by simp [Ty.v,bm,Occ.v]) (by simp [Ty.v]) A0 ?_
 have hv1:=d5 l q 8 dq
 refine qR 1 [(0,.imm (l.map (aa.int .i64))),(1,nI q),(2,.int .i64 (d)),(6,.ptr 0 0),(7,.int .i64 (ao l q 8))] [.box zC] ?_ ?_
 refine ar ?_ ?_
 refine qU 2 [(0,.imm (l.map (aa.int .i64))),(1,nI q),(2,.int .i64 (d)),(6,.ptr 0 0),(7,.int .i64 (ao l q 8)),(15,.bool ((d)==0))] ?_ ?_
 by_cases hb2:(d)=0
 refine qt (beq_iff_eq.2 hb2) ?_ ?_
 refine qo ?_ ?_
 refine qr 1 ?_ ?_
 refine qy (AU (a:=(ao l q 8)) (b:=5) kq dq) ?_ ?_ ?_
 refine qR 1 [(0,.imm (l.map (aa.int .i64))),(1,nI q),(2,.int .i64 (d)),(6,.ptr 0 0),(7,.int .i64 ((ao l q 8).tmod 5))] [.box zC] ?_ ?_
 refine ar ?_ ?_
 refine qU 1 [(0,.imm (l.map (aa.int .i64))),(1,nI q),(2,.int .i64 (d)),(6,.ptr 0 0),(7,.int .i64 ((ao l q 8).tmod 5)),(18,.int .i64 ((ao l q 8).tmod 5))] ?_ ?_
 refine qB 0 ?_ ?_ ?_
 refine ar ?_ ?_
 refine qU 2 [(0,.imm (l.map (aa.int .i64))),(1,nI q),(2,.int .i64 (d)),(6,.ptr 0 0),(7,.int .i64 ((ao l q 8).tmod 5)),(18,.int .i64 ((ao l q 8).tmod 5)),(19,.bool (((ao l q 8).tmod 5)==0))] ?_ ?_
 by_cases hb3:((ao l q 8).tmod 5)=0
 refine qt (beq_iff_eq.2 hb3) ?_ ?_
 refine qK ?_ ?_
 refine qz [(0,.imm (l.map (aa.int .i64))),(1,nI q),(2,.int .i64 (d)),(6,.ptr 0 0),(7,.int .i64 ((ao l q 8).tmod 5)),(18,.int .i64 ((ao l q 8).tmod 5)),(19,.bool (((ao l q 8).tmod 5)==0))] ?_ ?_
 refine qt (beq_iff_eq.2 hb3) ?_ ?_
 refine qW 3 [(6,.ptr 0 0)] [.box [.int .i64 ((ao l q 8).tmod 5),.str [],.int .i64 0,.full [],.full []]] ?_ ?_
 refine bb kq ?_
 apply iR
 apply aR
 refine dV (l:=[.agg [.int .i64 ((ao l q 8).tmod 5),.str [],.int .i64 0,.full [],.full []]]) 0 [] (.inr rfl) kq (Nat.zero_le _) kq jl jj ?_
 rotate_left
 iterate 5 kernel_rfl
 refine qf (beq_eq_false_iff_ne.2 hb3) ?_ ?_
 refine qU 2 [(0,.imm (l.map (aa.int .i64))),(1,nI q),(2,.int .i64 (d)),(6,.ptr 0 0),(7,.int .i64 ((ao l q 8).tmod 5)),(18,.int .i64 ((ao l q 8).tmod 5)),(19,.bool (((ao l q 8).tmod 5)==1))] ?_ ?_
 by_cases hb5:((ao l q 8).tmod 5)=1
 refine qt (beq_iff_eq.2 hb5) ?_ ?_
 refine qK ?_ ?_
 refine qz [(0,.imm (l.map (aa.int .i64))),(1,nI q),(2,.int .i64 (d)),(6,.ptr 0 0),(7,.int .i64 ((ao l q 8).tmod 5)),(18,.int .i64 ((ao l q 8).tmod 5)),(19,.bool (((ao l q 8).tmod 5)==1))] ?_ ?_
 refine qt (beq_iff_eq.2 hb5) ?_ ?_
 refine qW 3 [(6,.ptr 0 0)] [.box [.int .i64 ((ao l q 8).tmod 5),.str [],.int .i64 0,.full [],.full []]] ?_ ?_
 refine bb kq ?_
 apply iR
 apply aR
 refine dV (l:=[.agg [.int .i64 ((ao l q 8).tmod 5),.str [],.int .i64 0,.full [],.full []]]) 0 [] (.inr rfl) kq (Nat.zero_le _) kq jl jj ?_
 rotate_left
 iterate 5 kernel_rfl
 refine qf (beq_eq_false_iff_ne.2 hb5) ?_ ?_
 refine qo ?_ ?_
 refine qR 2 [(0,.imm (l.map (aa.int .i64))),(1,nI q),(2,.int .i64 (d)),(6,.ptr 0 0),(7,.int .i64 ((ao l q 8).tmod 5)),(18,.int .i64 ((ao l q 8).tmod 5)),(19,.bool (((ao l q 8).tmod 5)==2))] [.box zC] ?_ ?_
 by_cases hb7:((ao l q 8).tmod 5)=2
 refine qt (beq_iff_eq.2 hb7) ?_ ?_
 refine qW 3 [(6,.ptr 0 0)] [.box [.int .i64 ((ao l q 8).tmod 5),.str [],.int .i64 0,.full [],.full []]] ?_ ?_
 refine bb kq ?_
 apply iR
 apply aR
 refine dV (l:=[.agg [.int .i64 ((ao l q 8).tmod 5),.str [],.int .i64 0,.full [],.full []]]) 0 [] (.inr rfl) kq (Nat.zero_le _) kq jl jj ?_
 rotate_left
 iterate 2 kernel_rfl
 refine qf (beq_eq_false_iff_ne.2 hb7) ?_ ?_
 refine qU 2 [(0,.imm (l.map (aa.int .i64))),(1,nI q),(2,.int .i64 (d)),(6,.ptr 0 0),(18,.int .i64 ((ao l q 8).tmod 5)),(25,.bool (((ao l q 8).tmod 5)==3))] ?_ ?_
 by_cases hb8:((ao l q 8).tmod 5)=3
 refine qt (beq_iff_eq.2 hb8) ?_ ?_
 refine qW 2 [(6,.ptr 0 0)] [.box [.int .i64 3,.str [67,111,108,111,114],.int .i64 0,.full [],.full []]] ?_ ?_
 refine bb kq ?_
 apply iR
 apply aR
 refine dV (l:=[.agg [.int .i64 3,.str [67,111,108,111,114],.int .i64 0,.full [],.full []]]) 0 [] (.inr rfl) kq (Nat.zero_le _) kq jl jj ?_
 rotate_left
 iterate 2 kernel_rfl
 refine qf (beq_eq_false_iff_ne.2 hb8) ?_ ?_
 refine qU 2 [(0,.imm (l.map (aa.int .i64))),(1,nI q),(2,.int .i64 (d)),(6,.ptr 0 0),(18,.int .i64 ((ao l q 8).tmod 5)),(28,.bool (((ao l q 8).tmod 5)==4))] ?_ ?_
 by_cases hb9:((ao l q 8).tmod 5)=4
 refine qt (beq_iff_eq.2 hb9) ?_ ?_
 refine qW 2 [(6,.ptr 0 0)] [.box [.int .i64 3,.str [83,104,97,112,101],.int .i64 0,.full [],.full []]] ?_ ?_
 refine bb kq ?_
 apply iR
 apply aR
 refine dV (l:=[.agg [.int .i64 3,.str [83,104,97,112,101],.int .i64 0,.full [],.full []]]) 0 [] (.inr rfl) kq (Nat.zero_le _) kq jl jj ?_
 rotate_left
 iterate 2 kernel_rfl
 · exfalso;omega
 iterate 21 kernel_rfl
 refine qf (beq_eq_false_iff_ne.2 hb2) ?_ ?_
 refine qK ?_ ?_
 refine qz [(0,.imm (l.map (aa.int .i64))),(1,nI q),(2,.int .i64 (d)),(6,.ptr 0 0),(7,.int .i64 (ao l q 8))] ?_ ?_
 refine ar ?_ ?_
 refine qU 1 [(0,.imm (l.map (aa.int .i64))),(1,nI q),(2,.int .i64 (d)),(6,.ptr 0 0),(7,.int .i64 (ao l q 8)),(18,.int .i64 (ao l q 8))] ?_ ?_
 refine qB 0 ?_ ?_ ?_
 refine ar ?_ ?_
 refine qU 2 [(0,.imm (l.map (aa.int .i64))),(1,nI q),(2,.int .i64 (d)),(6,.ptr 0 0),(7,.int .i64 (ao l q 8)),(18,.int .i64 (ao l q 8)),(19,.bool ((ao l q 8)==0))] ?_ ?_
 by_cases hb10:(ao l q 8)=0
 refine qt (beq_iff_eq.2 hb10) ?_ ?_
 refine qK ?_ ?_
 refine qz [(0,.imm (l.map (aa.int .i64))),(1,nI q),(2,.int .i64 (d)),(6,.ptr 0 0),(7,.int .i64 (ao l q 8)),(18,.int .i64 (ao l q 8)),(19,.bool ((ao l q 8)==0))] ?_ ?_
 refine qt (beq_iff_eq.2 hb10) ?_ ?_
 refine qW 3 [(6,.ptr 0 0)] [.box [.int .i64 (ao l q 8),.str [],.int .i64 0,.full [],.full []]] ?_ ?_
 refine bb kq ?_
 apply iR
 apply aR
 refine dV (l:=[.agg [.int .i64 (ao l q 8),.str [],.int .i64 0,.full [],.full []]]) 0 [] (.inr rfl) kq (Nat.zero_le _) kq jl jj ?_
 rotate_left
 iterate 5 kernel_rfl
 refine qf (beq_eq_false_iff_ne.2 hb10) ?_ ?_
 refine qU 2 [(0,.imm (l.map (aa.int .i64))),(1,nI q),(2,.int .i64 (d)),(6,.ptr 0 0),(7,.int .i64 (ao l q 8)),(18,.int .i64 (ao l q 8)),(19,.bool ((ao l q 8)==1))] ?_ ?_
 by_cases hb12:(ao l q 8)=1
 refine qt (beq_iff_eq.2 hb12) ?_ ?_
 refine qK ?_ ?_
 refine qz [(0,.imm (l.map (aa.int .i64))),(1,nI q),(2,.int .i64 (d)),(6,.ptr 0 0),(7,.int .i64 (ao l q 8)),(18,.int .i64 (ao l q 8)),(19,.bool ((ao l q 8)==1))] ?_ ?_
 refine qt (beq_iff_eq.2 hb12) ?_ ?_
 refine qW 3 [(6,.ptr 0 0)] [.box [.int .i64 (ao l q 8),.str [],.int .i64 0,.full [],.full []]] ?_ ?_
 refine bb kq ?_
 apply iR
 apply aR
 refine dV (l:=[.agg [.int .i64 (ao l q 8),.str [],.int .i64 0,.full [],.full []]]) 0 [] (.inr rfl) kq (Nat.zero_le _) kq jl jj ?_
 rotate_left
 iterate 5 kernel_rfl
 refine qf (beq_eq_false_iff_ne.2 hb12) ?_ ?_
 refine qo ?_ ?_
 refine qR 2 [(0,.imm (l.map (aa.int .i64))),(1,nI q),(2,.int .i64 (d)),(6,.ptr 0 0),(7,.int .i64 (ao l q 8)),(18,.int .i64 (ao l q 8)),(19,.bool ((ao l q 8)==2))] [.box zC] ?_ ?_
 by_cases hb14:(ao l q 8)=2
 refine qt (beq_iff_eq.2 hb14) ?_ ?_
 refine qW 3 [(6,.ptr 0 0)] [.box [.int .i64 (ao l q 8),.str [],.int .i64 0,.full [],.full []]] ?_ ?_
 refine bb kq ?_
 apply iR
 apply aR
 refine dV (l:=[.agg [.int .i64 (ao l q 8),.str [],.int .i64 0,.full [],.full []]]) 0 [] (.inr rfl) kq (Nat.zero_le _) kq jl jj ?_
 rotate_left
 iterate 2 kernel_rfl
 refine qf (beq_eq_false_iff_ne.2 hb14) ?_ ?_
 refine qU 2 [(0,.imm (l.map (aa.int .i64))),(1,nI q),(2,.int .i64 (d)),(6,.ptr 0 0),(18,.int .i64 (ao l q 8)),(25,.bool ((ao l q 8)==3))] ?_ ?_
 by_cases hb15:(ao l q 8)=3
 refine qt (beq_iff_eq.2 hb15) ?_ ?_
 refine qW 2 [(6,.ptr 0 0)] [.box [.int .i64 3,.str [67,111,108,111,114],.int .i64 0,.full [],.full []]] ?_ ?_
 refine bb kq ?_
 apply iR
 apply aR
 refine dV (l:=[.agg [.int .i64 3,.str [67,111,108,111,114],.int .i64 0,.full [],.full []]]) 0 [] (.inr rfl) kq (Nat.zero_le _) kq jl jj ?_
 rotate_left
 iterate 2 kernel_rfl
 refine qf (beq_eq_false_iff_ne.2 hb15) ?_ ?_
 refine qU 2 [(0,.imm (l.map (aa.int .i64))),(1,nI q),(2,.int .i64 (d)),(6,.ptr 0 0),(18,.int .i64 (ao l q 8)),(28,.bool ((ao l q 8)==4))] ?_ ?_
 by_cases hb16:(ao l q 8)=4
 refine qt (beq_iff_eq.2 hb16) ?_ ?_
 refine qW 2 [(6,.ptr 0 0)] [.box [.int .i64 3,.str [83,104,97,112,101],.int .i64 0,.full [],.full []]] ?_ ?_
 refine bb kq ?_
 apply iR
 apply aR
 refine dV (l:=[.agg [.int .i64 3,.str [83,104,97,112,101],.int .i64 0,.full [],.full []]]) 0 [] (.inr rfl) kq (Nat.zero_le _) kq jl jj ?_
 rotate_left
 iterate 2 kernel_rfl
 refine qf (beq_eq_false_iff_ne.2 hb16) ?_ ?_
 refine qU 2 [(0,.imm (l.map (aa.int .i64))),(1,nI q),(2,.int .i64 (d)),(6,.ptr 0 0),(31,.bool ((ao l q 8)==5))] ?_ ?_
 by_cases hb17:(ao l q 8)=5
 refine qt (beq_iff_eq.2 hb17) ?_ ?_
 refine qV 2 ?_ ?_
 refine qy (aN (a:=((q:Nat):Int)) (b:=1) kq oq oq) ?_ ?_ ?_
 refine qr 1 ?_ ?_
 refine qy (Az (a:=(d)) (b:=1) kq oq oq) ?_ ?_ ?_
 refine bp (args:=[.imm (l.map (aa.int .i64)),.int .i64 (((q+1):Nat):Int),.int .i64 ((d) - 1)]) kq kq kq kq (ihP (q+1) oq oq) (by simp [Ty.v,bm,Occ.v]) (by simp [Ty.v]) A0 ?_
 refine qR 3 [(6,.ptr 0 0)] [.box [.int .i64 4,.str [],.int .i64 0,.full [],.full [Ty.v (aX l (d - 1).toNat (q+1))]]] ?_ ?_
 refine bb kq ?_
 apply iR
 apply aR
 refine dV (l:=[.agg [.int .i64 4,.str [],.int .i64 0,.full [],.full [Ty.v (aX l (d - 1).toNat (q+1))]]]) 0 [] (.inr rfl) kq (Nat.zero_le _) kq jl jj ?_
 · rw [B6 oq aq]
   exact .inr ⟨by simp [Ty.kind],by simp [aK,aa.frz,bo,Ty.v,Ty.kind,Ty.name,Ty.n,Ty.names,Ty.kids,Ty.enc_v]⟩
 iterate 8 kernel_rfl
 refine qf (beq_eq_false_iff_ne.2 hb17) ?_ ?_
 refine qk ?_ ?_
 refine ak ?_
 refine ab ?_
 refine qz [(0,.imm (l.map (aa.int .i64))),(1,nI q),(2,.int .i64 (d)),(6,.ptr 0 0)] ?_ ?_
 refine qW 3 [(0,.imm (l.map (aa.int .i64))),(1,nI q),(2,.int .i64 (d)),(6,.ptr 0 0),(8,.ptr 1 0)] [.box zC,.box [.int .i64 5,.str [],.int .i64 0,.full [],.full []]] ?_ ?_
 refine qV 2 ?_ ?_
 refine qy (aN (a:=((q:Nat):Int)) (b:=1) kq oq oq) ?_ ?_ ?_
 refine bp (args:=[.imm (l.map (aa.int .i64)),.int .i64 (((q+1):Nat):Int),.int .i64 16]) kq kq kq kq (iu l (q+1) 16 oq oq) (by simp [Ty.v,bm,Occ.v]) (by simp [Ty.v]) A0 ?_
 have hv18:=d5 l (q+1) 16 dq
 refine qR 1 [(0,.imm (l.map (aa.int .i64))),(1,nI q),(2,.int .i64 (d)),(6,.ptr 0 0),(8,.ptr 1 0),(9,.int .i64 (ao l (q+1) 16))] [.box zC,.box [.int .i64 5,.str [],.int .i64 0,.full [],.full []]] ?_ ?_
 refine ar ?_ ?_
 refine qU 1 [(0,.imm (l.map (aa.int .i64))),(1,nI q),(2,.int .i64 (d)),(6,.ptr 0 0),(8,.ptr 1 0),(9,.int .i64 (ao l (q+1) 16)),(10,.int .i64 0)] ?_ ?_
 refine Io 1 3 (cs:=[.int .i64 5,.str [],.int .i64 0,.full [],.full []]) (y:=.full []) [.int .i64 5,.str [],.int .i64 0,.imm [],.full []] kq kq zq (by simp [List.set,aa.frz,bo]) ?_
 refine mo 1 4 5 (cs:=[.int .i64 5,.str [],.int .i64 0,.imm [],.full []]) [.int .i64 5,.str [],.int .i64 0,.imm [],.own 2 0 0] dq kq kq kq ?_
 refine qZ [(0,.imm (l.map (aa.int .i64))),(1,nI q),(2,.int .i64 (d)),(6,.ptr 0 0),(8,.ptr 1 0),(9,.int .i64 (ao l (q+1) 16)),(10,.int .i64 0)] [.box zC,.box [.int .i64 5,.str [],.int .i64 0,.imm [],.own 2 0 0],.arr 5 (([]:List (Ty)).map Ty.enc) 0] ?_ ?_
 refine qB 1 ?_ ?_ ?_
 refine bR (σ:=(Nat×Int×Ty)) (fun ⟨i,w,o⟩=>[(0,.imm (l.map (aa.int .i64))),(1,.int .i64 ((q:Nat):Int)),(2,.int .i64 (d)),(6,.ptr 0 0),(8,.ptr 1 0),(9,.int .i64 (w)),(10,.int .i64 ((i:Nat):Int))]) (fun ⟨i,w,o⟩=>[.box zC,.box [.int .i64 (o.kind),.str o.name,.int .i64 (o.n),.imm (o.names.map aa.str),.own 2 0 o.kids.length],.arr 5 (o.kids.map Ty.enc) 0]) (fun ⟨i,w,o⟩=>(i≤4∧0≤w∧w<16)∧(o.kind=5∧o.names.length=o.kids.length∧o.sz≤1+i * 20000)∧mY (fun i=>aX l (d - 1).toNat (q+2+3 * i)) (4 - i) i w o=aX l d.toNat q) (fun ⟨i,w,o⟩=>4 - i) (0,ao l (q+1) 16,zv) kq (by have:=d5 l (q+1) 16 dq;exact ⟨⟨by omega,this.1,this.2⟩,⟨rfl,rfl,by decide⟩,(BV oq oq).symm⟩) ⟨⟨kq,kq,kq,kq,kq,kq,kq,trivial⟩,by simp [aV,aa.bel],by simp,kq,by simp [ai.belO]⟩ ?_
 rintro ⟨i,w,o⟩ ⟨⟨hi,hw0,hw1⟩,⟨ho5,hnk,hosz⟩,hR⟩
 have hwd:=Fv hw0 hw1
 refine qZ [(0,.imm (l.map (aa.int .i64))),(1,nI q),(2,.int .i64 (d)),(6,.ptr 0 0),(8,.ptr 1 0),(9,.int .i64 (w)),(10,nI i)] [.box zC,.box [.int .i64 (o.kind),.str o.name,.int .i64 (o.n),.imm (o.names.map aa.str),.own 2 0 o.kids.length],.arr 5 (o.kids.map Ty.enc) 0] ?_ ?_
 refine ar ?_ ?_
 refine qU 2 [(0,.imm (l.map (aa.int .i64))),(1,nI q),(2,.int .i64 (d)),(6,.ptr 0 0),(8,.ptr 1 0),(9,.int .i64 (w)),(10,nI i),(47,.bool (decide (((i:Nat):Int)<4)))] ?_ ?_
 by_cases hb19:((i:Nat):Int)<4
 refine qt (decide_eq_true hb19) ?_ ?_
 refine qK ?_ ?_
 refine qz [(0,.imm (l.map (aa.int .i64))),(1,nI q),(2,.int .i64 (d)),(6,.ptr 0 0),(8,.ptr 1 0),(9,.int .i64 (w)),(10,nI i)] ?_ ?_
 refine ar ?_ ?_
 refine qB 2 ?_ ?_ ?_
 refine ar ?_ ?_
 refine qV 1 ?_ ?_
 refine qy (AU (a:=(w)) (b:=2) kq dq) ?_ ?_ ?_
 refine qR 1 [(0,.imm (l.map (aa.int .i64))),(1,nI q),(2,.int .i64 (d)),(6,.ptr 0 0),(8,.ptr 1 0),(9,.int .i64 (w)),(10,nI i),(52,.bool (((w).tmod 2)==1))] [.box zC,.box [.int .i64 (o.kind),.str o.name,.int .i64 (o.n),.imm (o.names.map aa.str),.own 2 0 o.kids.length],.arr 5 (o.kids.map Ty.enc) 0] ?_ ?_
 by_cases hb20:((w).tmod 2)=1
 refine qt (beq_iff_eq.2 hb20) ?_ ?_
 refine cK cxM kq aB (bv ?_)
 refine qu 1 ?_ ?_
 refine cB (args:=[]) kq kq kq kq kq (vA) (fun _=>kq) kq kq ?_
 refine qu 1 ?_ ?_
 refine qd (ax (k:=.i64) (l:=nms) (enc:=aa.str) (i:=((i:Nat):Int)) [] kq bi ty9 (fun _=>rfl) oq oq) ?_ ?_ ?_ ?_
 refine qu 3 ?_ ?_
 refine qd (aN (a:=((q:Nat):Int)) (b:=2) kq oq oq) ?_ ?_ ?_ ?_
 refine qu 1 ?_ ?_
 refine qd (xQ (a:=3) (b:=((i:Nat):Int)) kq oq oq) ?_ ?_ ?_ ?_
 refine qd (aN (a:=(((q+2):Nat):Int)) (b:=(((3 * i):Nat):Int)) kq oq oq) ?_ ?_ ?_ ?_
 refine qu 1 ?_ ?_
 refine qd (Az (a:=(d)) (b:=1) kq oq oq) ?_ ?_ ?_ ?_
 refine cB (args:=[.imm (l.map (aa.int .i64)),.int .i64 ((((q+2)+(3 * i)):Nat):Int),.int .i64 ((d) - 1)]) kq kq kq kq kq (ihP ((q+2)+(3 * i)) oq oq) (by intro _;simp [Ty.v,bm,Occ.v]) (by simp [Ty.v]) A0 ?_
 refine uy (args:=[.agg [.int .i64 (o.kind),.str o.name,.int .i64 (o.n),.imm (o.names.map aa.str),.own 2 0 o.kids.length],.str (nms.getD i []),Ty.v (aX l (d - 1).toNat ((q+2)+(3 * i)))]) (args':=[Ty.v o,.str (nms.getD i []),Ty.v (aX l (d - 1).toNat ((q+2)+(3 * i)))]) (V':=.agg [.int .i64 5,.str [],.int .i64 (o.n),.imm ((oG o (nms.getD i [])).map aa.str),.own 3 0 (jF o (nms.getD i []) (aX l (d - 1).toNat ((q+2)+(3 * i)))).length]) (F:=[.box zC,.box [.int .i64 (o.kind),.str o.name,.int .i64 (o.n),.imm (o.names.map aa.str),.own 2 0 o.kids.length],.arr 5 (o.kids.map Ty.enc) (o.kids.map Ty.enc).length]) (G':=[.arr 5 ((jF o (nms.getD i []) (aX l (d - 1).toNat ((q+2)+(3 * i)))).map Ty.enc) 0]) (L:=[2,3]) kq kq kq kq kq (Fz o (aX l (d - 1).toNat ((q+2)+(3 * i))) (nms.getD i []) oq (by have:=hsm (q+2+3 * i);omega) aq) [.box zC,.box [.int .i64 (o.kind),.str o.name,.int .i64 (o.n),.imm (o.names.map aa.str),.own 2 0 o.kids.length],.arr 5 (o.kids.map Ty.enc) 0] kq vC vC (by simp [lK]) vC vC vC (by simp [l9,aS,aa.owns,pT,lK,Ty.v]) ?_
 refine qu 1 ?_ ?_
 refine cn kq ⟨kq,?_⟩
 refine ab ?_
 refine qZ [(0,.imm (l.map (aa.int .i64))),(1,nI q),(2,.int .i64 (d)),(6,.ptr 0 0),(8,.ptr 1 0),(9,.int .i64 (w)),(10,nI i)] [.box zC,.box [.int .i64 5,.str [],.int .i64 (o.n),.imm ((oG o (nms.getD i [])).map aa.str),.own 3 0 (jF o (nms.getD i []) (aX l (d - 1).toNat ((q+2)+(3 * i)))).length],.arr 5 (o.kids.map Ty.enc) (o.kids.map Ty.enc).length,.arr 5 ((jF o (nms.getD i []) (aX l (d - 1).toNat ((q+2)+(3 * i)))).map Ty.enc) 0] ?_ ?_
 refine iB [0,1,3] [(0,.imm (l.map (aa.int .i64))),(1,.int .i64 ((q:Nat):Int)),(2,.int .i64 (d)),(6,.ptr 0 0),(8,.ptr 1 0),(9,.int .i64 (w)),(10,.int .i64 ((i:Nat):Int))] [.box zC,.box [.int .i64 5,.str [],.int .i64 (o.n),.imm ((oG o (nms.getD i [])).map aa.str),.own 2 0 (jF o (nms.getD i []) (aX l (d - 1).toNat ((q+2)+(3 * i)))).length],.arr 5 ((jF o (nms.getD i []) (aX l (d - 1).toNat ((q+2)+(3 * i)))).map Ty.enc) 0] dq nW nW nW nW ?_
 refine qZ [(0,.imm (l.map (aa.int .i64))),(1,nI q),(2,.int .i64 (d)),(6,.ptr 0 0),(8,.ptr 1 0),(9,.int .i64 (w)),(10,nI i)] [.box zC,.box [.int .i64 5,.str [],.int .i64 (o.n),.imm ((oG o (nms.getD i [])).map aa.str),.own 2 0 (jF o (nms.getD i []) (aX l (d - 1).toNat ((q+2)+(3 * i)))).length],.arr 5 ((jF o (nms.getD i []) (aX l (d - 1).toNat ((q+2)+(3 * i)))).map Ty.enc) 0] ?_ ?_
 refine qo ?_ ?_
 refine qr 1 ?_ ?_
 refine qy (GL (a:=(w)) (b:=2) kq dq oq oq) ?_ ?_ ?_
 refine qr 1 ?_ ?_
 refine qe ?_ ?_
 refine ak ?_
 refine ab ?_
 refine qz [(0,.imm (l.map (aa.int .i64))),(1,nI q),(2,.int .i64 (d)),(6,.ptr 0 0),(8,.ptr 1 0),(9,.int .i64 ((w).tdiv 2)),(10,nI i)] ?_ ?_
 refine qo ?_ ?_
 refine qr 1 ?_ ?_
 refine qy (aN (a:=((i:Nat):Int)) (b:=1) kq oq oq) ?_ ?_ ?_
 refine qr 1 ?_ ?_
 refine qe ?_ ?_
 refine ab ⟨(i+1,w.tdiv 2,(me o (nms.getD i []) (aX l (d - 1).toNat (q+2+3 * i)))),?_,?_,⟨⟨kq,kq,kq,kq,kq,kq,kq,trivial⟩,by simp [aV,aa.bel],by simp,kq,by simp [ai.belO]⟩⟩
 · try dsimp only
   omega
 · try dsimp only
   first|(refine ⟨⟨by omega,hwd.1,hwd.2⟩,⟨ho5,hnk,?_⟩,?_⟩;(exact xf hosz);rw [← hR,kF _ i w o oq,if_neg aq];done)|(refine ⟨⟨by omega,hwd.1,hwd.2⟩,⟨rfl,zW _ _ _ hnk,?_⟩,?_⟩;(have h1:=t6 o (nms.getD i []) (aX l (d - 1).toNat (q+2+3 * i));have h2:=hsm (q+2+3 * i);have h3:=zl i;omega);(rw [← hR,kF _ i w o oq,if_pos aq]);done)
 iterate 37 kernel_rfl
 refine qf (beq_eq_false_iff_ne.2 hb20) ?_ ?_
 refine qK ?_ ?_
 refine qz [(0,.imm (l.map (aa.int .i64))),(1,nI q),(2,.int .i64 (d)),(6,.ptr 0 0),(8,.ptr 1 0),(9,.int .i64 (w)),(10,nI i)] ?_ ?_
 refine qo ?_ ?_
 refine qr 1 ?_ ?_
 refine qy (GL (a:=(w)) (b:=2) kq dq oq oq) ?_ ?_ ?_
 refine qr 1 ?_ ?_
 refine qe ?_ ?_
 refine ak ?_
 refine ab ?_
 refine qz [(0,.imm (l.map (aa.int .i64))),(1,nI q),(2,.int .i64 (d)),(6,.ptr 0 0),(8,.ptr 1 0),(9,.int .i64 ((w).tdiv 2)),(10,nI i)] ?_ ?_
 refine qo ?_ ?_
 refine qr 1 ?_ ?_
 refine qy (aN (a:=((i:Nat):Int)) (b:=1) kq oq oq) ?_ ?_ ?_
 refine qr 1 ?_ ?_
 refine qe ?_ ?_
 refine ab ⟨(i+1,w.tdiv 2,o),?_,?_,⟨⟨kq,kq,kq,kq,kq,kq,kq,trivial⟩,by simp [aV,aa.bel],by simp,kq,by simp [ai.belO]⟩⟩
 · try dsimp only
   omega
 · try dsimp only
   first|(refine ⟨⟨by omega,hwd.1,hwd.2⟩,⟨ho5,hnk,?_⟩,?_⟩;(exact xf hosz);rw [← hR,kF _ i w o oq,if_neg aq];done)|(refine ⟨⟨by omega,hwd.1,hwd.2⟩,⟨rfl,zW _ _ _ hnk,?_⟩,?_⟩;(have h1:=t6 o (nms.getD i []) (aX l (d - 1).toNat (q+2+3 * i));have h2:=hsm (q+2+3 * i);have h3:=zl i;omega);(rw [← hR,kF _ i w o oq,if_pos aq]);done)
 iterate 27 kernel_rfl
 refine qf (decide_eq_false hb19) ?_ ?_
 refine bC 1 kq kq ?_
 refine af ?_
 refine af ?_
 refine aA ?_
 refine ab ?_
 refine qz [(6,.ptr 0 0),(8,.ptr 1 0)] ?_ ?_
 refine qW 2 [(6,.ptr 0 0)] [.box [.int .i64 (o.kind),.str o.name,.int .i64 (o.n),.imm (o.names.map aa.str),.own 2 0 o.kids.length],.box [.int .i64 (o.kind),.str o.name,.int .i64 (o.n),.imm (o.names.map aa.str),.own 2 0 o.kids.length],.arr 5 (o.kids.map Ty.enc) 0] ?_ ?_
 refine iB [2,0] [(6,.ptr 1 0)] [.arr 5 (o.kids.map Ty.enc) 0,.box [.int .i64 (o.kind),.str o.name,.int .i64 (o.n),.imm (o.names.map aa.str),.own 0 0 o.kids.length]] dq nW nW nW nW ?_
 refine qZ [(6,.ptr 1 0)] [.arr 5 (o.kids.map Ty.enc) 0,.box [.int .i64 (o.kind),.str o.name,.int .i64 (o.n),.imm (o.names.map aa.str),.own 0 0 o.kids.length]] ?_ ?_
 refine bb kq ?_
 refine dV (l:=[.agg [.int .i64 (o.kind),.str o.name,.int .i64 (o.n),.imm (o.names.map aa.str),.own 0 0 o.kids.length]]) 1 [.arr 5 (o.kids.map Ty.enc) 0] (.inr rfl) kq (Nat.zero_le _) kq jl jj ?_
 · rw [show 4 - i=0 by omega,mY] at hR
   rw [← hR]
   exact .inl ⟨ho5,rfl,rfl⟩
 iterate 46 kernel_rfl
 all_goals
  first|exact vP (k:=(ao l q 8).tmod 5) (Bs oq) oq GK|exact vP (k:=ao l q 8) (Cb oq oq) oq GK
theorem rM (l:List Int) (q:Nat) (d:Int) (hl:jq l) (hq:(q:Int)+100 * d≤1000000) (hd:0≤d∧d≤2):av cx 13 [.imm (l.map (.int .i64)),.int .i64 (q:Nat),.int .i64 d] [] (clQ (aX l d.toNat q)):=vE l q d hl hq ⟨hd.1,by omega⟩
@[simp] theorem Ty.kind_mk (k:Int) (x:List UInt8) (n:Int) (l:List (List UInt8)) (ks:List Ty):(Ty.mk k x n l ks).kind=k:=rfl
@[simp] theorem Ty.name_mk (k:Int) (x:List UInt8) (n:Int) (l:List (List UInt8)) (ks:List Ty):(Ty.mk k x n l ks).name=x:=rfl
@[simp] theorem Ty.n_mk (k:Int) (x:List UInt8) (n:Int) (l:List (List UInt8)) (ks:List Ty):(Ty.mk k x n l ks).n=n:=rfl
@[simp] theorem Ty.names_mk (k:Int) (x:List UInt8) (n:Int) (l:List (List UInt8)) (ks:List Ty):(Ty.mk k x n l ks).names=l:=rfl
@[simp] theorem Ty.kids_mk (k:Int) (x:List UInt8) (n:Int) (l:List (List UInt8)) (ks:List Ty):(Ty.mk k x n l ks).kids=ks:=rfl
theorem El (t:Ty):t.enc.cells.length=5∧t.enc.cells.all aa.cellOk=true:=by rw [aO];exact ⟨rfl,rfl⟩
theorem AQ (p q:Ty):p.enc.withCells q.enc.cells=some q.enc:=by rw [Ty.enc_v,Ty.enc_v];rfl
theorem AP {l:List aa} {h:ac} {r:aa×ac} (hr:r∈(bif l.isEmpty then [true,false] else [false]).map fun b=>((.bool b:aa),h)):∃ b,r=(.bool b,h)∧(b=true→l=[]):=by
 obtain ⟨b,hb,rfl⟩:=List.mem_map.1 hr
 refine ⟨b,rfl,?_⟩
 rintro rfl
 cases l with
 | nil=>rfl
 | cons x l=>simp at hb
theorem xO {P:Program} {ev:Operand→aa} {op:Op} {h h0:ac} {l:List aa} {t e a b a' b':Nat} {z z':aa} {ek:TyK} (hv:sc ev op=some (.append,[t,t],[.full [],.imm l])) (hh:h=h0)
 (ht:ba P t=some ⟨.slice e,a,b,z⟩) (he:ba P e=some ⟨ek,a',b',z'⟩) (hc:0<a'∧z'.cells.length=a'∧gg a' l=true) (hf:jp l.length b'=true) :
 aop P h ev op=some (.own h0.length 0 l.length,h0++[.arr a' l 0]):=by
 subst hh
 rw [fS hv]
 simp only [cW,kA,ht,he,gZ]
 rw [if_pos hc,if_pos ⟨rfl,rfl,by simpa using hf⟩]
 simp
theorem oX {cx:Cx} {m:Nat} {l:List aa} {h:ac} {sz r:Nat} {T:Tm} {e:Exit} (hm:m=h.length) (he:e=.normal∨e=.ret) (hT:Tm.get T r=.own h.length 0 l.length) (hb:h.all (ai.belO (h.length+1))=true) (hbl:bP (h.length+1) l=true) :
 zk cx [.tmp r] m (fun v h'=>v=.own h.length 0 l.length∧h'=h++[.arr sz l 0]) e T (h++[.arr sz l 0]):=by
 have ht:(h++[ai.arr sz l 0]).take (h.length+1)=h++[.arr sz l 0]:=List.take_of_length_le zq
 refine ⟨he,[.own h.length 0 l.length],by simp [eD,hT],h.length+1,by omega,by simp [aK,aa.bel],?_,rfl,ht⟩
 rw [ht,List.all_append,hb]
 simp [ai.belO,hbl]
noncomputable def JP:Code:=aE Tryz.f84
theorem zX (l:List aa) (h:ac) (hok:gg 1 l=true) (hf:jp l.length 16=true) (hb:h.all (ai.belO (h.length+1))=true) (hbl:bP (h.length+1) l=true) :
 av cx 84 [.imm l] h (fun v h'=>v=.own h.length 0 l.length∧h'=h++[.arr 1 l 0]):=by
 refine dF (cx:=cx) 8 h.length [.tmp 2] Tryz.func84 rfl rfl rfl rfl rfl zq ?_
 show wpA cx 8 h.length (at_ JP []) _ _ _
 refine wSt [0] [(0,.imm l)] h kq rfl ?_
 refine qW 1 [(0,.imm l),(2,.full [])] h ?_ ?_
 refine ar ?_ ?_
 refine qV 1 ?_ ?_
 refine s8 (L:=(bif l.isEmpty then [true,false] else [false]).map fun b=>(.bool b,h)) kq kq kq kq kq ?_
 intro r hr
 obtain ⟨b,rfl,hb0⟩:=AP hr
 refine qN [(0,.imm l),(2,.full []),(4,.bool b)] h ?_ ?_
 refine wIf kq b kq (fun e=>?_) (fun _=>?_)
 have hl:=hb0 e
 subst hl
 refine qU 1 [(2,.full [])] ?_ ?_
 refine pJ 2 1 dq rfl ?_
 exact bb kq (oX rfl (.inr rfl) rfl hb hbl)
 kernel_rfl
 refine qK ?_ ?_
 refine qz [(0,.imm l),(2,.full [])] ?_ ?_
 refine qV 2 ?_ ?_
 refine AD (v:=.own h.length 0 l.length) (h':=h++[.arr 1 l 0]) kq kq (xO (P:=cx.P) (t:=22) (l:=l) (h0:=h) kq kq bi ty9 ⟨by decide,by decide,hok⟩ hf) ?_
 refine qr 1 ?_ ?_
 refine qe ?_ ?_
 refine ab ?_
 exact bb kq (oX rfl (.inr rfl) rfl hb hbl)
 iterate 9 kernel_rfl
noncomputable def IH:Code:=aE Tryz.f109
theorem yb (l:List aa) (h:ac) (hok:gg 5 l=true) (hf:jp l.length 80=true) (hb:h.all (ai.belO (h.length+1))=true) (hbl:bP (h.length+1) l=true) :
 av cx 109 [.imm l] h (fun v h'=>v=.own h.length 0 l.length∧h'=h++[.arr 5 l 0]):=by
 refine dF (cx:=cx) 8 h.length [.tmp 2] Tryz.func109 rfl rfl rfl rfl rfl zq ?_
 show wpA cx 8 h.length (at_ IH []) _ _ _
 refine wSt [0] [(0,.imm l)] h kq rfl ?_
 refine qW 1 [(0,.imm l),(2,.full [])] h ?_ ?_
 refine ar ?_ ?_
 refine qV 1 ?_ ?_
 refine s8 (L:=(bif l.isEmpty then [true,false] else [false]).map fun b=>(.bool b,h)) kq kq kq kq kq ?_
 intro r hr
 obtain ⟨b,rfl,hb0⟩:=AP hr
 refine qN [(0,.imm l),(2,.full []),(4,.bool b)] h ?_ ?_
 refine wIf kq b kq (fun e=>?_) (fun _=>?_)
 have hl:=hb0 e
 subst hl
 refine qU 1 [(2,.full [])] ?_ ?_
 refine pJ 2 5 dq rfl ?_
 exact bb kq (oX rfl (.inr rfl) rfl hb hbl)
 kernel_rfl
 refine qK ?_ ?_
 refine qz [(0,.imm l),(2,.full [])] ?_ ?_
 refine qV 2 ?_ ?_
 refine AD (v:=.own h.length 0 l.length) (h':=h++[.arr 5 l 0]) kq kq (xO (P:=cx.P) (t:=23) (l:=l) (h0:=h) kq kq bf bX ⟨by decide,by decide,hok⟩ hf) ?_
 refine qr 1 ?_ ?_
 refine qe ?_ ?_
 refine ab ?_
 exact bb kq (oX rfl (.inr rfl) rfl hb hbl)
 iterate 9 kernel_rfl
end Go.Proofs.YtdikgijfekfaoaaGreatDoor
namespace Go.Proofs.YtdikgijfekfaoaaGreatDoor
open Go.Proofs.YtdikgijfekfaoaaGreatDoor.Abs Go.RowKit Go.Maps Go.Sort
def yI (x:List UInt8):List (List UInt8)→List (List UInt8)
 | []=>[x]
 | y::l=>bif aY y x then y::yI x l else x::y::l
def aC:List (List UInt8)→List (List UInt8)
 | []=>[]
 | x::l=>yI x (aC l)
theorem nq (x:List UInt8):∀ l,(yI x l).Perm (x::l)
 | []=>.refl _
 | y::l=>by
  simp only [yI]
  cases aY y x with
  | true=>exact ((nq x l).cons y).trans (.swap x y l)
  | false=>exact .refl _
theorem bQ:∀ l,(aC l).Perm l
 | []=>.refl _
 | x::l=>(nq x _).trans ((bQ l).cons x)
theorem mD (x y:List UInt8):aY x y=decide (x<y):=bytesLess_eq x y
theorem oa (x:List UInt8):∀ l:List (List UInt8),l.Pairwise (fun a b=>leB a b=true)→(yI x l).Pairwise (fun a b=>leB a b=true)
 | [],_=>by simp [yI]
 | y::l,h=>by
  simp only [yI,mD]
  have h':=List.pairwise_cons.1 h
  by_cases hlt:y<x
  · rw [decide_eq_true hlt]
    refine List.pairwise_cons.2 ⟨fun z hz=>?_,oa x l h'.2⟩
    have:=(nq x l).mem_iff.1 hz
    simp only [List.mem_cons] at this
    rcases this with rfl|hz
    · simp only [leB,decide_eq_true_eq];exact List.le_of_lt hlt
    · exact h'.1 z hz
  · rw [decide_eq_false hlt]
    have hxy:x≤y:=List.not_lt.1 hlt
    refine List.pairwise_cons.2 ⟨fun z hz=>?_,h⟩
    simp only [List.mem_cons] at hz
    simp only [leB,decide_eq_true_eq]
    rcases hz with rfl|hz
    · exact hxy
    · have:=h'.1 z hz
      simp only [leB,decide_eq_true_eq] at this
      exact List.le_trans hxy this
theorem fF:∀ l,(aC l).Pairwise (fun a b=>leB a b=true)
 | []=>.nil
 | x::l=>oa x _ (fF l)
theorem wm {l l':List (List UInt8)} (h:l.Perm l'):l.mergeSort (fun x y=>decide (x≤y))=aC l':=by
 have tr:∀ a b c:List UInt8,leB a b=true→leB b c=true→leB a c=true:=fun a b c h1 h2=>by simp only [leB,decide_eq_true_eq] at *;exact List.le_trans h1 h2
 have to:∀ a b:List UInt8,(leB a b || leB b a)=true:=fun a b=>by simp only [leB,Bool.or_eq_true,decide_eq_true_eq];exact List.le_total a b
 refine List.Perm.eq_of_pairwise (le:=fun a b=>leB a b=true) (fun a b _ _ h1 h2=>?_) (List.pairwise_mergeSort tr to l) (fF l') (((List.mergeSort_perm l leB).trans h).trans (bQ l').symm)
 simp only [leB,decide_eq_true_eq] at h1 h2
 exact List.le_antisymm h1 h2
def mK (kv:List (List UInt8×aa)):List (aa×aa):=kv.map fun p=>(.str p.1,p.2)
theorem yX {ρ:Go.Proofs.YtdikgijfekfaoaaGreatDoor.Abs.Ren} {h:ac} {w:World} (wf:WF ρ h w) {m:Nat} {kv:List (List UInt8×aa)} (hm:h[m]?=some (.map (mK kv))) (hnd:(kv.map (·.1)).Nodup)
 (hlen:∀ p∈kv,p.1.length≤maxLen) (hsz:kv.length≤maxLen) :
 ∃ D:DataW Unit,w.ownsMap Tryz.prog 9 (fun _=>some (.nil,[])) (ρ.loc m).blk kv.length D∧(strKeys D).Perm (kv.map (·.1))∧Maps.size D=kv.length:=by
 obtain ⟨ms,clock,h1,h2,h3,h4⟩:=wf.obj m _ hm
 have hl:ms.size=kv.length:=by rw [h2];simp [mK]
 have key:∀ (i:Nat) e,ms[i]?=some e→∃ p,kv[i]?=some p∧e.key=.string ⟨p.1.toArray⟩∧e.born<clock:=by
  intro i e he
  have hi:i<kv.length:=by rw [← hl];exact (Array.getElem?_eq_some_iff.1 he).1
  have hk:(mK kv)[i]?=some (.str kv[i].1,kv[i].2):=by simp [mK,hi]
  obtain ⟨q1,_,q3⟩:=h3 i _ e hk he
  refine ⟨kv[i],List.getElem?_eq_getElem hi,?_,q3⟩
  generalize e.key=v at q1
  cases q1
  rfl
 have keys:ms.toList.map (·.key)=kv.map fun p=>Value.string ⟨p.1.toArray⟩:=by
  apply List.ext_getElem?
  intro i
  simp only [List.getElem?_map,Array.getElem?_toList]
  cases he:ms[i]? with
  | none =>
   have:kv[i]?=none:=by
    rw [List.getElem?_eq_none_iff,← hl]
    simpa using he
   simp [this]
  | some e =>
   obtain ⟨p,hp,hk,_⟩:=key i e he
   simp [hp,hk]
 have kof:∀ s:List UInt8,s.length≤maxLen→keyOf Tryz.prog 9 (.string ⟨s.toArray⟩)=some (.string s):=by
  intro s hs
  have:(⟨s.toArray⟩:ByteArray).size≤maxLen:=by simpa [ByteArray.size] using hs
  simp [keyOf,Tryz.underlying9,mapKey,this]
 have rd1:∀ x∈ms.toList,∃ p∈kv,x.key=.string ⟨p.1.toArray⟩∧WideElems.rd (H:=Unit) Tryz.prog 9 (fun _=>some (.nil,[])) x=some (.string p.1,.nil):=by
  intro x hx
  obtain ⟨i,hi⟩:=List.getElem?_of_mem hx
  rw [Array.getElem?_toList] at hi
  obtain ⟨p,hp,hk,_⟩:=key i x hi
  have hpm:p∈kv:=List.mem_of_getElem? hp
  refine ⟨p,hpm,hk,?_⟩
  simp [WideElems.rd,hk,kof p.1 (hlen p hpm)]
 have ins:∀ (x:Lit×DataW Unit) l,(DataW.insert x l).Perm (x::l):=by
  intro x l
  induction l with
  | nil=>exact .refl _
  | cons y l ih =>
   simp only [DataW.insert]
   split
   · exact .refl _
   · exact (ih.cons y).trans (.swap x y l)
 have srt:∀ l:List (Lit×DataW Unit),(l.foldr DataW.insert []).Perm l:=by
  intro l
  induction l with
  | nil=>exact .refl _
  | cons x l ih=>exact (ins x _).trans (ih.cons x)
 refine ⟨_,⟨ms,clock,h1,⟨by rw [hl];exact hsz,⟨?_,?_,?_⟩,fun x hx=>?_⟩,by omega,rfl⟩,?_,?_⟩
 · intro x hx
   obtain ⟨i,hi⟩:=List.getElem?_of_mem hx
   rw [Array.getElem?_toList] at hi
   obtain ⟨_,_,_,hb⟩:=key i x hi
   exact hb
 · rw [List.nodup_iff_pairwise_ne,List.pairwise_iff_getElem]
   intro i j hi hj hij
   simp only [List.length_map,Array.length_toList] at hi hj
   simp only [List.getElem_map,Array.getElem_toList,ne_eq]
   intro e
   have:=h4 i j _ _ (Array.getElem?_eq_getElem oq) (Array.getElem?_eq_getElem hj) e
   omega
 · rw [keys,show (kv.map fun p=>Value.string ⟨p.1.toArray⟩)=(kv.map (·.1)).map (fun s=>Value.string ⟨s.toArray⟩) by simp]
   refine List.pairwise_map.2 (hnd.imp fun hne e=>hne ?_)
   simpa using e
 · obtain ⟨p,_,_,q⟩:=rd1 x hx
   exact ⟨_,q⟩
 · refine ((srt _).map _).trans ?_
   have:(ms.toList.map (WideElems.rg (H:=Unit) Tryz.prog 9 (fun _=>some (.nil,[])))).map (fun p=>strOf p.1)=kv.map (·.1):=by
    apply List.ext_getElem?
    intro i
    simp only [List.getElem?_map,Array.getElem?_toList]
    cases he:ms[i]? with
    | none =>
     have:kv[i]?=none:=by
      rw [List.getElem?_eq_none_iff,← hl]
      simpa using he
     simp [this]
    | some e =>
     obtain ⟨p,hp,hk,_⟩:=key i e he
     simp [hp,WideElems.rg,WideElems.rd,hk,kof p.1 (hlen p (List.mem_of_getElem? hp)),strOf]
   rw [← this]
 · show (List.foldr DataW.insert [] _).length=_
   rw [(srt _).length_eq]
   simp [hl]
theorem C6 (m:Nat):AnyZ.SortsIn Tryz.prog Tryz.sorted113_ren Fence.wide m :=
 ⟨fun blk off cap ss W hH hblk hsz=>callsIn_wide.2 (AnyM.slices_Sort_string Tryz.sort126 blk off cap ss W hH hblk hsz),
  fun p cap W=>callsIn_wide.2 (AnyM.slices_Sort_string_none Tryz.sort126 p cap W)⟩
def rn (g:FuncId):Prop:=(∀ args w,(callFunc g args).run Tryz.prog w=.ok (.enter g args) w) ∧
 ∀ (w:World) (Bm b nn:Nat) (D0:DataW Unit),Bm<w.heap.size→w.cell? ⟨Bm,0,none⟩=some (.map (some b))→w.ownsMap Tryz.prog 9 (fun _=>some (.nil,[])) b nn D0 →
  SeqGives Fence.wide 2 Tryz.prog g #[.pointer (some ⟨Bm,0,none⟩)] encStr (fun ss=>ss.Perm (strKeys D0)) (Maps.size D0) w
theorem vh:rn 127:=⟨enters_of Tryz.func127 kq rfl,fun w Bm b nn D0 h1 h2 h3=>AnyZ.keys_gives (ρ:=Tryz.keys114_ren) { Tryz.keys114 with } Fence.wide _ trivial rfl oq Bm b nn D0 _ h1 h2 h3⟩
theorem AV:rn 138:=⟨enters_of Tryz.func138 kq rfl,fun w Bm b nn D0 h1 h2 h3=>AnyZ.keys_gives (ρ:=Tryz.keys123_ren) { Tryz.keys123 with } Fence.wide _ trivial rfl oq Bm b nn D0 _ h1 h2 h3⟩
theorem gV {g:FuncId} (hg:rn g) {h:ac} {m o:Nat} {kv:List (List UInt8×aa)} (ho:h[o]?=some (.box [.map m])) (hm:h[m]?=some (.map (mK kv))) (hnd:(kv.map (·.1)).Nodup)
 (hlen:∀ p∈kv,p.1.length≤1000000000) (hsz:kv.length≤1000000000) :
 av cx 113 [.fn (.func g) [] [.ptr o 0]] h (fun v h'=>v=.imm ((aC (kv.map (·.1))).map .str)∧h'=h):=by
 refine ji (v:=.imm ((aC (kv.map (·.1))).map .str)) ⟨_,Tryz.func113,rfl,rfl⟩ ⟨rfl,rfl⟩ ?_
 intro ρ w cargs wf _ hv
 have hmax:∀ n:Nat,n≤1000000000→n≤maxLen:=fun n hn=>Nat.le_trans hn dq
 obtain ⟨D,hown,hperm,hD⟩:=yX wf hm hnd (fun p hp=>hmax _ (hlen p hp)) (hmax _ hsz)
 obtain ⟨u,rfl,hu⟩:=hv.one
 have hcv:∃ p,u=.func (.func g) #[] #[p]∧VR ρ h w (.ptr o 0) p:=by
  cases hu with
  | fn _ _ _ us vs hl hl' hu1 hv1 =>
   obtain ⟨us⟩:=us
   obtain ⟨vs⟩:=vs
   match us,vs,hl,hl',hv1 with
   | [],[p],_,_,hv2=>exact ⟨p,rfl,hv2 0 _ _ rfl rfl⟩
 obtain ⟨p,rfl,hp⟩:=hcv
 obtain ⟨c,t,q1,q2,q3⟩:=wf.obj o _ ho
 have hpe:p=.pointer (some ⟨(ρ.loc o).blk,0,none⟩):=by cases hp;rfl
 subst hpe
 have hlt:(ρ.loc o).blk<w.heap.size:=(Array.getElem?_eq_some_iff.1 q1).1
 have hcell:w.cell? ⟨(ρ.loc o).blk,0,none⟩=some (.map (some (ρ.loc m).blk)):=by
  simp only [List.length_cons,List.length_nil] at q2
  have hc0:c[0]?=some c[0]:=Array.getElem?_eq_getElem oq
  have:=q3 0 (.map m) c[0] rfl hc0
  have e:c[0]=.map (some (ρ.loc m).blk):=by
   generalize c[0]=v at this
   cases this
   rfl
  simp [World.cell?,q1,hc0,e]
 have hseq:=hg.2 w (ρ.loc o).blk (ρ.loc m).blk kv.length D hlt hcell hown
 refine (callsIn_wide.1 (AnyZ.sorted_in Tryz.sorted113 Fence.wide 5 trivial trivial trivial trivial rfl oq (C6 _) (enters_of Tryz.func126 kq rfl) g _ trivial hg.1 _ _ (by rw [hD];exact hmax _ hsz) (by rw [hD];omega) w hseq)).mono ?_
 rintro e w' ⟨v,ss,rfl,hS,hrow,_,hb⟩
 rw [wm (hS.trans hperm)] at hrow
 have hl:ss.length=(aC (kv.map (·.1))).length:=((hS.trans hperm).trans (bQ _).symm).length_eq
 obtain ⟨hx,⟨rfl,hn⟩|⟨gb,cap,cur,rfl,hbase,hgb,hcap,hcm,hcs,hcur⟩⟩:=hrow
 · have hz:aC (kv.map (·.1))=[]:=List.eq_nil_of_length_eq_zero oq
   refine ⟨_,ρ.I,rfl,hb,fun _ _ h=>h,fun _ _ h=>.inl h,fun _=>?_⟩
   rw [hz]
   exact .imm [] none 0 0 0 0 (fun _ _=>undef) (Nat.le_refl _) zq zq zq zq
 · refine ⟨_,fun b j=>ρ.I b j∨b=gb,rfl,hb,fun _ _ h=>.inl h,fun b j hI=>?_,fun _=>?_⟩
   · rcases hI with h|rfl
     · exact .inl h
     · exact .inr ⟨hbase,(Array.getElem?_eq_some_iff.1 hgb).1⟩
   · rw [show (Value.slice (some ⟨gb,0,none⟩) ss.length cap)=Value.slice (some ⟨gb,0,none⟩) ((aC (kv.map (·.1))).map aa.str).length cap by rw [List.length_map,← hl]]
     refine .imm _ _ cap 1 gb 0 (fun i _=>encStr ((aC (kv.map (·.1))).getD i [])) (by rw [List.length_map,← hl];exact hcap) (fun _=>rfl) ?_ ?_ ?_
     · intro i x hx
       simp only [List.getElem?_map,Option.map_eq_some_iff] at hx
       obtain ⟨s,_,rfl⟩:=hx
       rfl
     · intro i x j y hx hy
       simp only [List.getElem?_map,Option.map_eq_some_iff] at hx
       obtain ⟨s,hs,rfl⟩:=hx
       have hj:j=0:=by
        have:=(List.getElem?_eq_some_iff.1 hy).1
        simp [aa.cells] at this
        exact this
       subst hj
       refine ⟨.inr rfl,?_⟩
       have hi:i<(aC (kv.map (·.1))).length:=(List.getElem?_eq_some_iff.1 hs).1
       have hc:cur[i]?=some (encStr s):=by
        have h1:(cur.toList.take (ss.length * 1))[i]?=some (encStr s):=by rw [hcur,List.getElem?_map,hs];rfl
        rw [List.getElem?_take] at h1
        split at h1
        · rwa [Array.getElem?_toList] at h1
        · simp at h1
       have hg':(aC (kv.map (·.1))).getD i []=s:=by rw [List.getD_eq_getElem?_getD,hs];rfl
       rw [hg']
       simp [World.cell?,hgb,hc]
     · intro i x j y hx hy
       simp only [List.getElem?_map,Option.map_eq_some_iff] at hx
       obtain ⟨s,hs,rfl⟩:=hx
       have hj:j=0:=by
        have:=(List.getElem?_eq_some_iff.1 hy).1
        simp [aa.cells] at this
        exact this
       subst hj
       simp [aa.cells] at hy
       subst hy
       have hg':(aC (kv.map (·.1))).getD i []=s:=by rw [List.getD_eq_getElem?_getD,hs];rfl
       show VR _ h w' (.str s) (encStr ((aC (kv.map (·.1))).getD i []))
       rw [hg']
       exact .str s
end Go.Proofs.YtdikgijfekfaoaaGreatDoor
namespace Go.Proofs.YtdikgijfekfaoaaGreatDoor
open Go.Proofs.YtdikgijfekfaoaaGreatDoor.Abs Go.RowKit Go.Maps
theorem mclone65 {h:ac} {o:Nat} {es:List (aa×aa)} (ho:h[o]?=some (.map es)):av cx 65 [.map o] h (fun v h'=>v=.map h.length∧h'=h++[.map es]):=by
 refine ⟨⟨_,Tryz.func65,rfl,rfl⟩,fun ρ w cargs wf _ hv=>?_⟩
 obtain ⟨u,rfl,hu⟩:=hv.one
 obtain ⟨ms,clock,q1,q2,q3,q4⟩:=wf.obj o _ ho
 have hu':u=.map (some (ρ.loc o).blk):=by cases hu;rfl
 subst hu'
 refine (AnyW.maps_Clone Tryz.mclone65 _ ms clock w q1).mono ?_
 rintro e w' ⟨rfl,rfl⟩
 have hst:=b6 (h':=h++[.map es]) (w':=w.alloc (.map ms clock)) wf (Fr.refl ρ h w) h.length (.map es) ⟨w.heap.size,0,0⟩ ρ.I (getElem?_append_one _ _) (fun o' ho=>bH _ _ _ ho)
  rfl rfl rfl zq (fun b hb _=>Below.heap_alloc w _ b hb) zq
  (fun b j hI=>⟨hI,bJ (Below.heap_alloc w _ b (wf.immlt b j hI)) j⟩) (fun b j hI=>.inl hI)
  (fun _=>.inl ⟨Nat.le_refl _,by simp⟩) (fun j _ hI=>absurd (wf.immlt _ j hI) zq)
  (cf wf)
  (fun le=>⟨ms,clock,Go.heap_alloc_new w _,q2,fun i kv e a b=>⟨(q3 i kv e a b).1.mono le,(q3 i kv e a b).2.1.mono le,(q3 i kv e a b).2.2⟩,q4⟩)
 refine ⟨_,_,_,_,rfl,⟨rfl,rfl⟩,?_,hst.1,hst.2.1,hst.2.2⟩
 have:=VR.map (ρ:=ρ.put h.length ⟨w.heap.size,0,0⟩ ρ.I) (h:=h++[.map es]) (w:=w.alloc (.map ms clock)) h.length es (getElem?_append_one _ _)
 rw [Ren.put_same] at this
 exact this
def md (sz by':Nat):List aa→ac→Option (aa×ac)
 | [.imm l],h=>bif gg sz l && jp l.length by' && h.all (ai.belO (h.length+1)) && bP (h.length+1) l then some (.own h.length 0 l.length,h++[.arr sz l 0]) else none
 | _,_=>none
def sO:List aa→ac→Option (aa×ac)
 | [.map o],h=>match h[o]? with
  | some (.map es)=>some (.map h.length,h++[.map es])
  | _=>none
 | _,_=>none
def CE:List (aa×aa)→Option (List (List UInt8×aa))
 | []=>some []
 | (.str s,v)::l=>match CE l with
  | some r=>some ((s,v)::r)
  | none=>none
 | _=>none
theorem w9:∀ {es:List (aa×aa)} {kv:List (List UInt8×aa)},CE es=some kv→es=mK kv
 | [],kv,h=>by simp [CE] at h;subst h;rfl
 | (x,v)::l,kv,h=>by
  cases x with
  | str s =>
   simp only [CE] at h
   split at h
   · rename_i r hr
     simp only [Option.some.injEq] at h
     subst h
     rw [w9 hr];rfl
   · simp at h
  | _=>simp [CE] at h
def ndS:List (List UInt8)→Bool
 | []=>true
 | x::l=>!(l.contains x) && ndS l
theorem sN:∀ {l:List (List UInt8)},ndS l=true→l.Nodup
 | [],_=>.nil
 | x::l,h=>by
  simp only [ndS,Bool.and_eq_true,Bool.not_eq_true',List.contains_eq_mem,decide_eq_false_iff_not] at h
  exact List.nodup_cons.2 ⟨h.1,sN h.2⟩
def y9 (kv:List (List UInt8×aa)):Bool:=ndS (kv.map (·.1)) && kv.all (fun p=>Nat.ble p.1.length 1000000000) && Nat.ble kv.length 1000000000
def m3:List aa→ac→Option (aa×ac)
 | [.fn (.func g) [] [.ptr o 0]],h=>bif Nat.beq g 127 || Nat.beq g 138 then match h[o]? with
  | some (.box [.map m])=>match h[m]? with
   | some (.map es)=>match CE es with
    | some kv=>bif y9 kv then some (.imm ((aC (kv.map (·.1))).map .str),h) else none
    | none=>none
   | _=>none
  | _=>none
  else none
 | _,_=>none
def uc:yB:=fun f args h =>
 bif Nat.beq f 84 then md 1 16 args h
 else bif Nat.beq f 109 then md 5 80 args h
 else bif Nat.beq f 65 then sO args h
 else bif Nat.beq f 113 then m3 args h
 else none
def kP:ma:=fun f args h=>bif Nat.beq f 84 || Nat.beq f 109 || Nat.beq f 65 || Nat.beq f 113 then A3 (fun _ _ _=>none) uc (fun _=>false) f args h else none
theorem k7 {sz by':Nat} {args:List aa} {h:ac} {r:aa×ac} (hr:md sz by' args h=some r) :
 ∃ l,args=[.imm l]∧gg sz l=true∧jp l.length by'=true∧h.all (ai.belO (h.length+1))=true∧bP (h.length+1) l=true∧r=(.own h.length 0 l.length,h++[.arr sz l 0]):=by
 unfold md at hr
 split at hr
 · rename_i h' l
   cases hc:gg sz l && jp l.length by' && h.all (ai.belO (h.length+1)) && bP (h.length+1) l with
   | false=>rw [hc] at hr;simp at hr
   | true =>
    rw [hc] at hr
    simp only [cond_true,Option.some.injEq] at hr
    simp only [Bool.and_eq_true] at hc
    exact ⟨l,rfl,hc.1.1.1,hc.1.1.2,hc.1.2,hc.2,hr.symm⟩
 · simp at hr
theorem tV {args:List aa} {h:ac} {r:aa×ac} (hr:m3 args h=some r):av cx 113 args h fun v h'=>v=r.1∧h'=r.2:=by
 unfold m3 at hr
 split at hr <;> try (simp at hr;done)
 rename_i _ g o
 cases hg:Nat.beq g 127 || Nat.beq g 138 with
 | false=>rw [hg] at hr;simp at hr
 | true =>
  rw [hg] at hr
  simp only [cond_true] at hr
  split at hr <;> try (simp at hr;done)
  rename_i m ho
  split at hr <;> try (simp at hr;done)
  rename_i es hm
  split at hr <;> try (simp at hr;done)
  rename_i kv hk
  cases hc:y9 kv with
  | false=>rw [hc] at hr;simp at hr
  | true =>
   rw [hc] at hr
   simp only [cond_true,Option.some.injEq] at hr
   subst hr
   have:=w9 hk
   subst this
   simp only [y9,Bool.and_eq_true,List.all_eq_true,Nat.ble_eq] at hc
   refine gV ?_ ho hm (sN hc.1.1) hc.1.2 hc.2
   simp only [Bool.or_eq_true] at hg
   rcases hg with hg|hg
   · rw [Nat.eq_of_beq_eq_true hg];exact vh
   · rw [Nat.eq_of_beq_eq_true hg];exact AV
theorem yt:AH cx uc:=by
 intro f args h r hr
 unfold uc at hr
 cases h1:Nat.beq f 84 with
 | true =>
  rw [h1] at hr
  obtain ⟨l,rfl,q1,q2,q3,q4,rfl⟩:=k7 hr
  rw [Nat.eq_of_beq_eq_true h1]
  exact zX l h q1 q2 q3 q4
 | false =>
  rw [h1] at hr
  simp only [cond_false] at hr
  cases h2:Nat.beq f 109 with
  | true =>
   rw [h2] at hr
   obtain ⟨l,rfl,q1,q2,q3,q4,rfl⟩:=k7 hr
   rw [Nat.eq_of_beq_eq_true h2]
   exact yb l h q1 q2 q3 q4
  | false =>
   rw [h2] at hr
   simp only [cond_false] at hr
   cases h3:Nat.beq f 65 with
   | true =>
    rw [h3] at hr
    simp only [cond_true] at hr
    rw [Nat.eq_of_beq_eq_true h3]
    unfold sO at hr
    split at hr <;> try (simp at hr;done)
    split at hr <;> try (simp at hr;done)
    rename_i es ho
    simp only [Option.some.injEq] at hr
    subst hr
    exact mclone65 ho
   | false =>
    rw [h3] at hr
    simp only [cond_false] at hr
    cases h4:Nat.beq f 113 with
    | true =>
     rw [h4] at hr
     rw [Nat.eq_of_beq_eq_true h4]
     exact tV hr
    | false=>rw [h4] at hr;simp at hr
theorem F6:∀ f args h r,kP f args h=some r→jf cx f args h r.1 r.2.1 r.2.2:=by
 intro f args h r hr
 unfold kP at hr
 cases hc:Nat.beq f 84 || Nat.beq f 109 || Nat.beq f 65 || Nat.beq f 113 with
 | false=>rw [hc] at hr;simp at hr
 | true =>
  rw [hc] at hr
  simp only [cond_true] at hr
  exact nX (raw:=fun _=>false) (kP:=fun _ _ _=>none) zq yt f args h r hr
end Go.Proofs.YtdikgijfekfaoaaGreatDoor
namespace Go.Proofs.YtdikgijfekfaoaaGreatDoor
open Go.Proofs.YtdikgijfekfaoaaGreatDoor.Abs
set_option maxRecDepth 100000
theorem rQ : Tryz.prog.funcs.toList.all (fun fn => !(fn.name == "runtime.NumGoroutine")) = true := by kernel_rfl
theorem yE : ∀ (f : FuncId) (fn : Func), cx.P.funcs[f]? = some fn → (fn.name == "runtime.NumGoroutine") = false := by
 intro f fn hf
 have hm:fn∈Tryz.prog.funcs.toList:=Array.mem_toList_iff.2 (Array.mem_of_getElem? hf)
 have:=List.all_eq_true.1 rQ fn hm
 simpa using this
theorem Ix:cx.P.follows .mixedOrders=true:=by kernel_rfl
def xp:XP:=⟨1000,fun _=>false,fun f g=>(Nat.beq f 68 || Nat.beq f 77) && Nat.beq g 67⟩
theorem BW:BR cx.P cx.G kP xp 60 false 18 [] []=some (.bool true,[]):=by kernel_rfl
theorem pD:ay cx 18 [] (.bool true):=qw Ix yE F6 60 false 18 [] [] _ BW
end Go.Proofs.YtdikgijfekfaoaaGreatDoor
namespace Go.Proofs.YtdikgijfekfaoaaGreatDoor
open Go.Proofs.YtdikgijfekfaoaaGreatDoor.Abs
set_option maxRecDepth 20000
set_option maxHeartbeats 4000000
noncomputable def c3:Code:=aE Tryz.f3
theorem IP:ownKnob Tryz.prog.godebug=none:=by kernel_rfl
theorem E9:laidOutB Tryz.prog=true:=by kernel_rfl
def Gf:List TypeId:=[3,4,9,22,23,25,26,206,207]
theorem jU:uX Tryz.prog Gf=true:=by kernel_rfl
def l6:List (String×DataW Unit):=Rows.typesFormsRow.laid
def kwD : String × DataW Unit := l6.getD 6 ("", .nil)
def syD : String × DataW Unit := l6.getD 7 ("", .nil)
theorem sG:l6.filter (fun x=>x.2.handleName?.isSome)=[]:=by kernel_rfl
theorem HW:(kwD.1,kwD.2)∈l6:=List.mem_of_getElem? (i:=6) rfl
theorem H8:(syD.1,syD.2)∈l6:=List.mem_of_getElem? (i:=7) rfl
theorem FA:Tryz.prog.globalNamed kwD.1=some 4:=by kernel_rfl
theorem EM:Tryz.prog.globalNamed syD.1=some 5:=by kernel_rfl
theorem FD:(Tryz.prog.globals[4]?).map (·.type)=some 206:=by kernel_rfl
theorem Gv:(Tryz.prog.globals[5]?).map (·.type)=some 207:=by kernel_rfl
theorem Dx:(dOf kwD.2).cells=oP:=by kernel_rfl
theorem CS:(dOf syD.2).cells=aj:=by kernel_rfl
theorem DF {W:World} (hL:laidMetH Tryz.prog l6 W):wM cx (m7 W) W:=by
 intro g cs hg
 have hg':(bif Nat.beq g 4 then some oP else bif Nat.beq g 5 then some aj else none)=some cs:=hg
 cases h4:Nat.beq g 4 with
 | true =>
  rw [h4] at hg'
  simp only [cond_true,Option.some.injEq] at hg'
  subst hg'
  rw [Nat.eq_of_beq_eq_true h4,← Dx]
  exact tb sG hL HW FA FD jU rfl
 | false =>
  rw [h4] at hg'
  simp only [cond_false] at hg'
  cases h5:Nat.beq g 5 with
  | true =>
   rw [h5] at hg'
   simp only [cond_true,Option.some.injEq] at hg'
   subst hg'
   rw [Nat.eq_of_beq_eq_true h5,← CS]
   exact tb sG hL H8 EM Gv jU rfl
  | false=>rw [h5] at hg';simp at hg'
theorem tz {H:Type}:∀ {elems:List (DataW H)},(∀ (i:Nat) x,elems[i]?=some x→∃ n,x=.lit (.int .i64 n)∧-9223372036854775808≤n∧n≤9223372036854775807)→∃ l:List Int,rP elems=l.map (.int .i64)∧jq l∧l.length≤Rows.uptoBulkAll elems
 | [],_=>⟨[],rfl,by simp [jq],Nat.le_refl _⟩
 | x::r,key=>by
  obtain ⟨n,rfl,hn⟩:=key 0 x rfl
  obtain ⟨l,h1,h2,h3⟩:=tz (elems:=r) (fun i y hy=>key (i+1) y (by simpa using hy))
  refine ⟨n::l,by simp [rP,dOf,h1],?_,by simp [Rows.uptoBulkAll,Rows.uptoBulk];omega⟩
  intro y hy
  simp only [List.mem_cons] at hy
  rcases hy with rfl|hy
  · exact hn
  · exact h2 y hy
section
variable {H:Type} {enc:TypeId×Value→H} {w:World} {sp:Nat→Bool} {held:Bool}
theorem ue {fuel:Nat} {cs:List Value} {d:DataW H} {ps:List MemPlace} (h:DataW.trod enc Tryz.prog w 0 sp held fuel 26 cs=some (d,ps)):∃ l:List Int,dOf d=.imm (l.map (.int .i64))∧jq l∧l.length+1≤Rows.uptoBulk d:=by
 cases fuel with
 | zero=>simp [DataW.trod] at h
 | succ fuel =>
  rcases ly Tryz.underlying26 h with ⟨_,rfl⟩|⟨a,len,cap,elems,spare,_,rfl,_,_,hel⟩
  · exact ⟨[],rfl,by simp [jq],by simp [Rows.uptoBulk]⟩
  · have key:∀ (i:Nat) x,elems[i]?=some x→∃ n,x=.lit (.int .i64 n)∧-9223372036854775808≤n∧n≤9223372036854775807:=fun i x hx=>by
     obtain ⟨cs',ps',_,q⟩:=hel i x hx
     cases fuel with
     | zero=>simp [DataW.trod] at q
     | succ fuel =>
      obtain ⟨n,_,rfl,hw⟩:=pZ Tryz.underlying3 q
      refine ⟨n,rfl,?_⟩
      simpa [Lit.wf,IntKind.min,IntKind.max,IntKind.signed,IntKind.bits] using hw
    obtain ⟨l,h1,h2,h3⟩:=tz key
    exact ⟨l,by simp [dOf,h1],h2,by simp only [Rows.uptoBulk];omega⟩
end
theorem Dv (t:TypeId) (h:([25,26,3]:List TypeId).contains t=true):Tryz.prog.readableRec t=true∧t<Tryz.prog.types.size:=by
 simp at h
 rcases h with rfl|rfl|rfl
 · exact ⟨by kernel_rfl,of_decide_eq_true kq⟩
 · exact ⟨by kernel_rfl,of_decide_eq_true kq⟩
 · exact ⟨by kernel_rfl,of_decide_eq_true kq⟩
noncomputable def DJ (os:Os):World:=World.laidAll Tryz.prog os l6
theorem Cw (os:Os) (args:Array Value):laidMet Tryz.prog l6 ((DJ os).forCall (fun _ _=>0) ⟨#[],args,[]⟩).memory:=laidMet_laidAll _ kq kq
end Go.Proofs.YtdikgijfekfaoaaGreatDoor
namespace Go.Proofs.YtdikgijfekfaoaaGreatDoor.Abs
section
variable {cx:Cx} {n m:Nat} {Q:di} {T:Tm} {h:ac} {l:List BOp} {KD:List (List Nat×List Nat)→Tm→ac→Prop} {s:DSt}
theorem cV {f:FuncId} {args:List aa} {hs hs' aM:ac} {v:aa} {L:List Nat} (hc:bF l=true) (hg:bI s.2.1 (hdB l).g=some true) (hal:ey (hdB l).op=false) (ho:aop cx.P s.2.2.1 (aev cx.G s.2.1) (hdB l).op=none) (ha:aG (aev cx.G s.2.1) (hdB l).op=some (f,args))
 (hS:s.2.2.1=hs++aM) (hq:av cx f args hs fun v' h'=>v'=v∧h'=hs') (hb:bP hs.length args=true) (hbo:hs.all (ai.belO hs.length)=true) (hl:hs'.length=hs.length) (hv:v.bel hs.length=true) (hbo':hs'.all (ai.belO hs.length)=true) (hn:gT aM=true)
 (hL:List.range hs.length=L) (hne:L.isEmpty=false) (hk:bdr cx l.tail (s.1,b4 s.2.1 (hdB l).dst v,hs'++aM,s.2.2.2++[(L,L)]) KD):bdr cx l s KD:=by
 subst hL
 refine z6 (h':=hs'++aM) hc hg hal ho ha ⟨?_,?_,?_⟩ hk
 · intro o hn
   rw [hS]
   have:hs.length≤o:=by simpa using hn
   rw [List.getElem?_append_right oq,List.getElem?_append_right oq,hl]
 · rw [hS]
   exact qn hq hb hbo hl hv hbo' hn
 · intro e
   rw [e] at hne
   simp at hne
theorem vM (o:Nat) (h':ac) (hh:cb h [o]=h') {d:Code} (hw:wpA cx n m d Q T h'):wpA cx n m d Q T h:=by
 subst hh
 intro E B ρ a w hm hr
 obtain ⟨ρ',q1,q2,q3,_⟩:=dK [o] hr.wf hr.fr
 exact hw E B ρ' a w hm (hr.step q1 q2 q3)
end
section
variable {P:Program} {ev:Operand→aa} {op:Op} {h:ac}
theorem tn {α:Type} {enc:α→aa} {sz:Nat} (hok:∀ q,((enc q).cells.length==sz && (enc q).cells.all aa.cellOk)=true) (l:List α):gg sz (l.map enc)=true:=by
 unfold gg
 rw [List.all_eq_true]
 intro x hx
 obtain ⟨q,_,rfl⟩:=List.mem_map.1 hx
 exact hok q
end
end Go.Proofs.YtdikgijfekfaoaaGreatDoor.Abs
namespace Go.Proofs.YtdikgijfekfaoaaGreatDoor.Abs
section
variable {cx:Cx} {l:List BOp} {S:Tm×ac} {K:Tm→ac→Prop}
theorem cM {f:FuncId} {args:List aa} {v:aa} {h':ac} (H0:ac) (hc:bF l=true) (hg:bI S.1 (hdB l).g=some true) (ho:aop cx.P S.2 (aev cx.G S.1) (hdB l).op=none) (ha:aG (aev cx.G S.1) (hdB l).op=some (f,args)) (hS:S.2=H0) (hq:av cx f args H0 fun v' h''=>v'=v∧h''=h')
 (hk:bS cx l.tail (b4 S.1 (hdB l).dst v,h') K):bS cx l S K:=by
 subst hS
 exact wn hc hg ho ha hq (by rintro v' h'' ⟨rfl,rfl⟩;exact hk)
end
end Go.Proofs.YtdikgijfekfaoaaGreatDoor.Abs
namespace Go.Proofs.YtdikgijfekfaoaaGreatDoor.Abs
open Go
section
variable {cx:Cx} {h:ac}
theorem ca {f:FuncId} {args0 args:List aa} {v0 v:aa} {hs hs' h':ac} (L:List Nat) (hc:av cx f args0 hs fun v' g=>v'=v0∧g=hs') (hl:hs.length=L.length) (hnd:L.Nodup) (hb:bP hs.length args0=true) (hbo:hs.all (ai.belO hs.length)=true)
 (hobj:L.map (fun o=>h[o]?)=(dB (bc L h.length) hs).map some) (hn:gT h=true) (ha:bV (bc L h.length) args0=args) (hv:v0.ren (bc L h.length)=v) (hh:dv h L hs'=h') :
 av cx f args h fun v' g=>v'=v∧g=h':=by
 subst ha hv hh
 have le:r6 h L hs:=by
  refine ⟨hl,hnd,?_,hbo,fun o m left ho=>(jC hn ho).elim⟩
  intro i o x hi hx
  have e:=congrArg (fun l=>l[i]?) hobj
  simp only [fX,List.getElem?_map,hi,hx,Option.map_some] at e
  exact Option.some.inj e
 exact e9 le hc hb (by rintro v' g _ ⟨rfl,rfl⟩;exact ⟨rfl,rfl⟩)
end
end Go.Proofs.YtdikgijfekfaoaaGreatDoor.Abs
namespace Go.Proofs.YtdikgijfekfaoaaGreatDoor.Abs
open Go
section
variable {cx:Cx} {l:List BOp} {S:RSt} {K:Tm→ac→Prop}
theorem vZ {f:FuncId} {args args':List aa} {v:aa} {F:ac} (hc:bF l=true) (hg:bI S.1 (hdB l).g=some true) (ho:aop cx.P S.2 (aev cx.G S.1) (hdB l).op=none) (ha:aG (aev cx.G S.1) (hdB l).op=some (f,args))
 (hq:ay cx f args' v) (H0:ac) (hH:S.2=H0) (hf:bo H0 args=args') (hb:bP 0 args'=true) (hF:cb H0 (aS args)=F)
 (hk:bS cx l.tail (b4 S.1 (hdB l).dst v,F) K):bS cx l S K:=by
 subst hH hF
 exact wn hc hg ho ha (q:=fun v' h'=>v'=v∧h'=cb S.2 (aS args)) (fm (by rw [hf];exact hq) (by rw [hf];exact hb) ⟨rfl,rfl⟩) (by rintro v' h' ⟨rfl,rfl⟩;exact hk)
variable {f:FuncId} {args args':List aa} {h:ac} {Q:aa→ac→Prop}
theorem wj {v:aa} {H F:ac} (L:List Nat) (hc:av cx f args h fun v' h'=>v'=v∧h'=H) (hF:cb H L=F):av cx f args h fun v' h'=>v'=v∧h'=F:=by
 subst hF
 refine ⟨hc.1,fun ρ w cargs wf hg hv=>(hc.2 ρ w cargs wf hg hv).mono ?_⟩
 rintro e w' ⟨ρ',cv,v',h',rfl,⟨rfl,rfl⟩,hvv,wf',le',fr'⟩
 obtain ⟨ρ1,q1,q2,q3,_⟩:=dK L wf' fr'
 exact ⟨ρ1,cv,v',_,rfl,⟨rfl,rfl⟩,hvv.mono q2,q1,le'.trans q2,q3⟩
theorem ya (hc:av cx f args' h Q) (hw:∀ ρ w vs,VRs ρ h w args vs→VRs ρ h w args' vs):av cx f args h Q :=
 ⟨hc.1,fun ρ w cargs wf hg hv=>hc.2 ρ w cargs wf hg (hw ρ w cargs hv)⟩
theorem Dd {x y:aa} (hw:∀ ρ w v,VR ρ h w x v→VR ρ h w y v):∀ ρ w vs,VRs ρ h w [x] vs→VRs ρ h w [y] vs:=by
 intro ρ w vs hv
 refine ⟨hv.1,fun i z v hz hv'=>?_⟩
 match i with
 | 0=>simp at hz;subst hz;exact hw ρ w v (hv.2 0 x v rfl hv')
 | i+1=>simp at hz
theorem GU {a b c d e:aa}:∀ ρ w v,VR ρ h w (.agg [a,b,c,d,e]) v→VR ρ h w (.agg [a,b,c,.any,.any]) v:=by
 intro ρ w v hv
 cases hv with
 | agg _ vs hl hx =>
  refine .agg _ vs hl fun i x y h1 h2=>?_
  match i with
  | 0=>simp at h1;subst h1;exact hx 0 _ y rfl h2
  | 1=>simp at h1;subst h1;exact hx 1 _ y rfl h2
  | 2=>simp at h1;subst h1;exact hx 2 _ y rfl h2
  | 3=>simp at h1;subst h1;exact .any _
  | 4=>simp at h1;subst h1;exact .any _
  | i+5=>simp at h1
theorem nO {a b c d e v:aa} (hc:ay cx f [.agg [a,b,c,.any,.any]] v) (hb:bP 0 [a,b,c]=true) (ho:aS [a,b,c]=[]) (hf:bo h [a,b,c]=[a,b,c]):av cx f [.agg [a,b,c,d,e]] h fun v' h'=>v'=v∧h'=h:=by
 simp only [bP,Bool.and_true,Bool.and_eq_true] at hb
 simp only [aS,List.append_nil,List.append_eq_nil_iff] at ho
 simp only [bo,List.cons.injEq,and_true] at hf
 refine ya (args':=[.agg [a,b,c,.any,.any]]) ?_ (Dd GU)
 refine fm (v:=v) (by simp only [bo,aa.frz,hf.1,hf.2.1,hf.2.2];exact hc) (by simp only [bo,aa.frz,hf.1,hf.2.1,hf.2.2,bP,aa.bel,hb.1,hb.2.1,hb.2.2];rfl) ⟨rfl,?_⟩
 simp only [aS,aa.owns,ho.1,ho.2.1,ho.2.2,List.append_nil]
 rfl
end
end Go.Proofs.YtdikgijfekfaoaaGreatDoor.Abs
namespace Go.Proofs.YtdikgijfekfaoaaGreatDoor.Abs
open Go
theorem BC (r:Nat→Nat) {l l':Loc} {x y:ai} (h:x.grows l l' y):x.grows l l' (y.ren r):=by
 cases x <;> cases y <;> simp_all [ai.grows,ai.ren,aw]
section
variable {cx:Cx} {n m:Nat} {T:Tm} {h:ac} {Q:di}
theorem GA (ks:List Nat) (T':Tm) (h':ac) (hpre:∀ o,o<m→ks[o]?=some o) (hnd:ks.Nodup) (hT:∀ p∈T,∀ o∈p.2.refs,o∈ks) (hO:∀ o∈ks,kZ ks h[o]?) (eT:renT (fun o=>ks.idxOf o) T=T') (eh:ee (fun o=>ks.idxOf o) h ks=h') {d:Code}
 (hk:wpA cx n m d Q T' h'):wpA cx n m d Q T h:=by
 intro E B ρ a w hm hr
 subst eT eh
 let r:Nat→Nat:=fun o=>ks.idxOf o
 let ρ':Ren:=⟨fun i=>ρ.loc (ks.getD i 0),ρ.I⟩
 have hin:∀ o∈ks,∀ y,h[o]?=some y→y.isIter=false∧(ee r h ks)[r o]?=some (y.ren r)∧ρ'.loc (r o)=ρ.loc o:=by
  intro o ho y hy
  have h1:=hO o ho
  rw [hy] at h1
  have hlt:ks.idxOf o<ks.length:=List.idxOf_lt_length_iff.2 ho
  have hge:ks[ks.idxOf o]=o:=List.getElem_idxOf hlt
  refine ⟨h1.1,?_,?_⟩
  · rw [fU,List.getElem?_map,List.getElem?_eq_getElem hlt,hge]
    simp [hy,lh]
  · show ρ.loc (ks.getD (ks.idxOf o) 0)=ρ.loc o
    rw [List.getD_eq_getElem?_getD,List.getElem?_eq_getElem hlt,hge];rfl
 have hout:∀ (i:Nat) x,(ee r h ks)[i]?=some x→∃ o y,o∈ks∧(∃ hi:i<ks.length,ks[i]=o)∧h[o]?=some y∧x=y.ren r∧ρ'.loc i=ρ.loc o:=by
  intro i x hx
  rw [fU,List.getElem?_map] at hx
  cases hq:ks[i]? with
  | none=>rw [hq] at hx;simp at hx
  | some o =>
   rw [hq] at hx
   obtain ⟨hi,he⟩:=List.getElem?_eq_some_iff.1 hq
   have hmem:o∈ks:=he▸List.getElem_mem hi
   have h1:=hO o hmem
   cases hy:h[o]? with
   | none=>rw [hy] at h1;exact h1.elim
   | some y =>
    simp [hy,lh] at hx
    refine ⟨o,y,hmem,⟨hi,he⟩,hy,hx.symm,?_⟩
    show ρ.loc (ks.getD i 0)=ρ.loc o
    rw [List.getD_eq_getElem?_getD,hq];rfl
 have hwf:WF ρ' (ee r h ks) w:=by
  refine ⟨?_,?_,?_,hr.wf.immlt,?_⟩
  · intro i x hx
    obtain ⟨o,y,h1,_,h3,rfl,h5⟩:=hout i x hx
    rw [h5]
    have h6:=hO o h1
    rw [h3] at h6
    exact (hr.wf.obj o y h3).ren2 h6.1 (fun _ _ h=>h) (fun o' ho' y' hy'=>hin o' (h6.2 o' ho') y' hy')
  · intro i x i' x' hx hx' hb hb' he
    obtain ⟨o,y,h1,⟨hi,e1⟩,h3,rfl,h5⟩:=hout i x hx
    obtain ⟨o',y',h1',⟨hi',e1'⟩,h3',rfl,h5'⟩:=hout i' x' hx'
    rw [br,h5] at hb
    rw [br,h5'] at hb'
    rw [h5,h5'] at he
    have:=hr.wf.inj o y o' y' h3 h3' hb hb' he
    exact kD hnd hi hi' (by rw [e1,e1',this])
  · intro i x hx hb
    obtain ⟨o,y,h1,_,h3,rfl,h5⟩:=hout i x hx
    rw [br,h5] at hb
    rw [h5];exact hr.wf.lt o y h3 hb
  · intro i x j hx hb hI
    obtain ⟨o,y,h1,_,h3,rfl,h5⟩:=hout i x hx
    rw [br,h5] at hb
    rw [h5] at hI ⊢
    rw [mF]
    exact hr.wf.imm o y j h3 hb hI
 refine hk E B ρ' a w hm ⟨?_,hr.size,hr.defers,?_,hwf,?_,?_⟩
 · intro t
   rw [pR]
   exact (hr.tm t).ren2 (fun _ _ h=>h) (fun o ho y hy=>hin o (qI T t hT o ho) y hy)
 · intro g cs hg
   have le0:Le ρ [] w ρ' [] w:=⟨fun o x hx=>by simp at hx,fun b j hI=>⟨hI,rfl⟩⟩
   exact (hr.glob g cs hg).nil_mono le0
 · refine ⟨hr.fr.os,hr.fr.tape,hr.fr.output,hr.fr.size,hr.fr.keep,hr.fr.imm,hr.fr.new,?_⟩
   intro i x hx hb hlt
   obtain ⟨o,y,h1,_,h3,rfl,h5⟩:=hout i x hx
   rw [br,h5] at hb
   rw [h5] at hlt ⊢
   exact hr.fr.own o y h3 hb hlt
 · refine ⟨fun o x hx=>?_,hr.le.imm⟩
   obtain ⟨x',h1,h2⟩:=hr.le.obj o x hx
   have hlt:o<m:=hm▸(List.getElem?_eq_some_iff.1 hx).1
   have hko:=hpre o hlt
   refine ⟨x'.ren r,?_,?_⟩
   · show (ee r h ks)[o]?=_
     rw [fU,List.getElem?_map,hko]
     simp [h1,lh]
   · have:ρ'.loc o=ρ.loc o:=by
      show ρ.loc (ks.getD o 0)=_
      rw [List.getD_eq_getElem?_getD,hko];rfl
     rw [this]
     exact BC r h2
theorem Ap (t o:Nat) {es:List aa} {off len sz fr:Nat} (es':List aa) (hx:Tm.get T t=.own o off len) (ho:h[o]?=some (.arr sz es fr)) (htip:off+len=es.length) (hes:es.drop off=es') {d:Code}
 (hk:wpA cx n m d Q ((t,.imm es')::T) (h.set o (.arr sz es es.length))):wpA cx n m d Q T h:=by
 intro E B ρ a w hm hr
 obtain ⟨ρ1,g1,g2,g3,g4⟩:=lg hr.wf hr.fr ho
 have hr1:=hr.step g1 g2 g3
 refine hk E B ρ1 a w hm ⟨fun t'=>?_,hr1.size,hr1.defers,hr1.glob,hr1.wf,hr1.fr,hr1.le⟩
 simp only [Tm.get]
 by_cases e:t=t'
 · subst e
   rw [if_pos rfl,← hes]
   exact g4 off len _ htip (hx▸hr.tm t)
 · rw [if_neg e];exact hr1.tm t'
end
section
variable {P:Program} {ev:Operand→aa} {op:Op} {h:ac}
theorem DO {a b:Int} {ats:List Nat} (hv:sc ev op=some (.min,ats,[.int .i64 a,.int .i64 b])):aop P h ev op=some (.int .i64 (min a b),h):=by
 rw [fS hv]
 have e:(if b<a then b else a)=min a b:=by
  split <;> omega
 match ats with
 | []=>simp only [cW,wl,cR];rw [e]
 | _::_=>simp only [cW,wl,cR];rw [e]
end
end Go.Proofs.YtdikgijfekfaoaaGreatDoor.Abs
namespace Go.Proofs.YtdikgijfekfaoaaGreatDoor.Abs
theorem pf {cx:Cx} {l:List BOp} {KD:List (List Nat×List Nat)→Tm→ac→Prop} {s:DSt} {f:FuncId} {args:List aa} {h':ac} {v:aa} (L:List Nat) (H0:ac) (hc:bF l=true) (hg:bI s.2.1 (hdB l).g=some true) (hal:ey (hdB l).op=false) (ho:aop cx.P s.2.2.1 (aev cx.G s.2.1) (hdB l).op=none) (ha:aG (aev cx.G s.2.1) (hdB l).op=some (f,args))
 (hS:s.2.2.1=H0) (hq:av cx f args H0 fun v' h''=>v'=v∧h''=h') (hfr:∀ o,o∉L→h'[o]?=H0[o]?) (hne:L.isEmpty=false)
 (hk:bdr cx l.tail (s.1,b4 s.2.1 (hdB l).dst v,h',s.2.2.2++[(L,L)]) KD):bdr cx l s KD:=by
 subst hS
 refine z6 (h':=h') hc hg hal ho ha ⟨hfr,hq,?_⟩ hk
 intro e
 rw [e] at hne
 simp at hne
end Go.Proofs.YtdikgijfekfaoaaGreatDoor.Abs
namespace Go.Proofs.YtdikgijfekfaoaaGreatDoor
open Go.Proofs.YtdikgijfekfaoaaGreatDoor.Abs
set_option maxRecDepth 20000
set_option maxHeartbeats 4000000
@[simp] theorem Ff (k:Nat) (l:List (Int×Ty)):((ae (aa.int .i64) Ty.v l).all fun e=>e.1.bel k && e.2.bel k)=true:=by
 simp [ae,Ty.v,List.all_eq_true]
abbrev Bd:=List (Int×Ty)
def mI (m:Bd) (n:Int) (t:Ty):Bool:=match am n m with
 | none=>true
 | some o=>o.beq t
def ro (m:Bd):Prop:=∀ k t,am k m=some t→t.sz<100000000
noncomputable def c98:Code:=aE Tryz.f98
theorem sk (n:Int) (t a b:Ty) (m:Bd) (hs:t.sz<100000000) (hm:ro m):av cx 98 [.int .i64 (n),Ty.v t,.ptr 3 0] [.map (ae (aa.int .i64) Ty.v m),a.bx,b.bx,.box [.map 0]] (fun v h=>v=(.bool (mI m n t))∧h=[.map (ae (aa.int .i64) Ty.v (aJ n t m)),a.bx,b.bx,.box [.map 0]]):=by
 refine ap (cx:=cx) 24 4 [(ResultVar.tmp 5)] Tryz.func98 rfl rfl rfl rfl rfl zq ?_
 show wpA cx 24 4 (at_ c98 []) _ _ _
 refine qZ [(0,.int .i64 (n)),(1,Ty.v t),(2,.ptr 3 0)] [.map (ae (aa.int .i64) Ty.v m),a.bx,b.bx,.box [.map 0]] ?_ ?_
 refine qW 2 [(0,.int .i64 (n)),(2,.ptr 3 0),(4,.ptr 4 0)] [.map (ae (aa.int .i64) Ty.v m),a.bx,b.bx,.box [.map 0],t.bx] ?_ ?_
 refine qV 2 ?_ ?_
 rcases hm1:am (n) m with _|x1
 refine qy (e8 (ok:=true) (o:=0) (ek:=(aa.int .i64)) (ev:=Ty.v) (l:=m) (k:=(n)) dH hm1 kq Gx ty3 rfl bX kq) ?_ ?_ ?_
 refine qR 6 [(0,.int .i64 (n)),(2,.ptr 3 0),(4,.ptr 4 0),(6,.ptr 5 0),(7,.bool false)] [.map (ae (aa.int .i64) Ty.v m),a.bx,b.bx,.box [.map 0],t.bx,.box zC] ?_ ?_
 refine qV 3 ?_ ?_
 refine qY (dc (o:=0) (ek:=(aa.int .i64)) (ev:=Ty.v) (l:=m) (k:=(n)) (x:=t) dH kq Gx ty3 rfl kq kq) ?_ ?_ ?_
 refine qN [(4,.ptr 4 0),(6,.ptr 5 0),(7,.bool false)] [.map (ae (aa.int .i64) Ty.v (aJ (n) t m)),a.bx,b.bx,.box [.map 0],t.bx,.box zC] ?_ ?_
 refine qU 8 [(5,.bool true)] ?_ ?_
 refine bb kq ?_
 refine aL (l:=[.bool true]) (.inr rfl) kq (by simp [aK,mI, *]) (by simp [aK]) (by simp [aK]) ?_ ?_
 refine Eq.trans (b:=[.map (ae (aa.int .i64) Ty.v (aJ (n) t m)),a.bx,b.bx,.box [.map 0]]) kq ?_
 · simp
 · simp [ai.belO,hpV,Ty.v]
 iterate 8 kernel_rfl
 refine qy (cH (ok:=true) (o:=0) (ek:=(aa.int .i64)) (ev:=Ty.v) (l:=m) (k:=(n)) (x:=x1) dH hm1 kq Gx ty3 rfl bX kq) ?_ ?_ ?_
 refine qR 6 [(0,.int .i64 (n)),(2,.ptr 3 0),(4,.ptr 4 0),(6,.ptr 5 0),(7,.bool true)] [.map (ae (aa.int .i64) Ty.v m),a.bx,b.bx,.box [.map 0],t.bx,x1.bx] ?_ ?_
 refine qV 3 ?_ ?_
 refine qY (dc (o:=0) (ek:=(aa.int .i64)) (ev:=Ty.v) (l:=m) (k:=(n)) (x:=t) dH kq Gx ty3 rfl kq kq) ?_ ?_ ?_
 refine qN [(4,.ptr 4 0),(6,.ptr 5 0),(7,.bool true)] [.map (ae (aa.int .i64) Ty.v (aJ (n) t m)),a.bx,b.bx,.box [.map 0],t.bx,x1.bx] ?_ ?_
 refine qV 5 ?_ ?_
 refine bp (args:=[.agg [.int .i64 (x1.kind),.str x1.name,.int .i64 (x1.n),.imm (x1.names.map aa.str),.imm (x1.kids.map Ty.enc)],.agg [.int .i64 (t.kind),.str t.name,.int .i64 (t.n),.imm (t.names.map aa.str),.imm (t.kids.map Ty.enc)]]) kq kq kq kq (nH x1 t (by exact hm _ _ aq)) (by simp [Ty.v,bm,Occ.v]) (by simp [Ty.v]) (by simp [Ty.v,a7]) ?_
 refine qR 2 [(5,.bool (x1.beq t))] [.map (ae (aa.int .i64) Ty.v (aJ (n) t m)),a.bx,b.bx,.box [.map 0],t.bx,x1.bx] ?_ ?_
 refine bb kq ?_
 refine aL (l:=[.bool (x1.beq t)]) (.inr rfl) kq (by simp [aK,mI, *]) (by simp [aK]) (by simp [aK]) ?_ ?_
 refine Eq.trans (b:=[.map (ae (aa.int .i64) Ty.v (aJ (n) t m)),a.bx,b.bx,.box [.map 0]]) kq ?_
 · simp
 · simp [ai.belO,hpV,Ty.v]
 iterate 12 kernel_rfl
def woL (t u:Ty) (k:Nat):List (List UInt8×Ty):=((t.names.zip t.kids).take k).filter fun p=>decide (aQ u.names p.1<0)
def woT (t u:Ty) (k:Nat):Ty:=.mk 5 [] t.n ((woL t u k).map Prod.fst) ((woL t u k).map Prod.snd)
theorem Dc {t u:Ty} {k:Nat} (h:k<t.names.length) (hn:t.names.length=t.kids.length):woL t u (k+1)=woL t u k++(if aQ u.names (t.names.getD k [])<0 then [(t.names.getD k [],t.kids.getD k Ty.zero)] else []):=by
 have h1:k<t.kids.length:=by omega
 have h2:k<(t.names.zip t.kids).length:=by rw [List.length_zip];omega
 have e:(t.names.zip t.kids)[k]=(t.names.getD k [],t.kids.getD k Ty.zero):=by
  rw [List.getElem_zip,List.getD_eq_getElem?_getD,List.getD_eq_getElem?_getD,List.getElem?_eq_getElem h,List.getElem?_eq_getElem h1];rfl
 rw [woL,List.take_succ_eq_append_getElem h2,List.filter_append,e]
 congr 1
 by_cases hc:aQ u.names (t.names.getD k [])<0
 · rw [List.filter_cons,if_pos (decide_eq_true hc),if_pos hc];rfl
 · rw [List.filter_cons,if_neg (fun h=>hc (of_decide_eq_true h)),if_neg hc];rfl
abbrev Fd:=List (List UInt8×Ty)
@[simp] theorem Ga (k:Nat) (l:Fd):((ae aa.str Ty.v l).all fun e=>e.1.bel k && e.2.bel k)=true:=by
 simp [ae,Ty.v,List.all_eq_true]
def b5 (l:Fd) (k:Nat):List Ty:=((aC (l.map Prod.fst)).take k).map fun s=>(am s l).getD Ty.zero
def recT (l:Fd) (n:Int):Ty:=.mk 5 [] n (aC (l.map Prod.fst)) (b5 l (aC (l.map Prod.fst)).length)
theorem sE {l:Fd} {k:Nat} {x:Ty} (hk:k<(aC (l.map Prod.fst)).length) (h:am ((aC (l.map Prod.fst)).getD k []) l=some x):b5 l k++[x]=b5 l (k+1):=by
 unfold b5
 rw [List.take_succ_eq_append_getElem hk,List.map_append,List.map_singleton]
 rw [List.getD_eq_getElem?_getD,List.getElem?_eq_getElem hk,Option.getD_some] at h
 rw [h];rfl
theorem wH (l:Fd) (k:Nat) (h:k≤(aC (l.map Prod.fst)).length):(b5 l k).length=k:=by simp [b5,List.length_take];omega
theorem Ab {s:List UInt8}:∀ {l:Fd},s∈l.map Prod.fst→¬ am s l=none
 | [],h=>by simp at h
 | p::l,h=>by
  rw [am]
  split
  · simp
  · rename_i hne
    simp only [List.map_cons,List.mem_cons] at h
    rcases h with h|h
    · exact absurd h hne
    · exact Ab h
theorem te {l:Fd} {k:Nat} (hk:k<(aC (l.map Prod.fst)).length):¬ am ((aC (l.map Prod.fst)).getD k []) l=none:=by
 refine Ab ?_
 rw [List.getD_eq_getElem?_getD,List.getElem?_eq_getElem hk]
 exact (bQ _).subset (List.getElem_mem hk)
def tT (l:Fd):Prop:=(l.map Prod.fst).Nodup∧(∀ p∈l,p.1.length≤1000000000)∧l.length<100000000
theorem zi {l:Fd} (h:tT l):(aC (l.map Prod.fst)).length<100000000:=by
 rw [(bQ _).length_eq,List.length_map];exact h.2.2
noncomputable def I9:Code:=aE Tryz.f114
theorem Eb (t u:Ty) (l:Fd) :av cx 114 [.map 3] [t.bx,u.bx,.box zC,.map (ae aa.str Ty.v l),.box zC] (fun v h=>v=.fn (.func 127) [] [.ptr 5 0]∧h=[t.bx,u.bx,.box zC,.map (ae aa.str Ty.v l),.box zC,.box [.map 3]]):=by
 refine dF (cx:=cx) 4 5 [(ResultVar.tmp 2)] Tryz.func114 rfl rfl rfl rfl rfl zq ?_
 show wpA cx 4 5 (at_ I9 []) _ _ _
 refine qZ [(0,.map 3)] [t.bx,u.bx,.box zC,.map (ae aa.str Ty.v l),.box zC] ?_ ?_
 refine qW 2 [(1,.ptr 5 0)] [t.bx,u.bx,.box zC,.map (ae aa.str Ty.v l),.box zC,.box [.map 3]] ?_ ?_
 refine qU 2 [(2,.fn (.func 127) [] [.ptr 5 0])] ?_ ?_
 refine bb kq ?_
 refine dV (l:=[.fn (.func 127) [] [.ptr 5 0]]) 6 [t.bx,u.bx,.box zC,.map (ae aa.str Ty.v l),.box zC,.box [.map 3]] (.inr rfl) kq dq kq (by simp [aK,-List.map_append,-List.map_take,-List.map_drop,-List.append_assoc]) (by simp [ai.belO,-List.map_append,-List.map_take,-List.map_drop,-List.append_assoc]) ?_
 · exact ⟨rfl,rfl⟩
 iterate 3 kernel_rfl
theorem B9 (t u:Ty) (l:Fd) (hl:tT l):av cx 113 [.fn (.func 127) [] [.ptr 5 0]] [t.bx,u.bx,.box zC,.map (ae aa.str Ty.v l),.box zC,.box [.map 3]] (fun v h=>v=.imm ((aC (l.map Prod.fst)).map .str)∧h=[t.bx,u.bx,.box zC,.map (ae aa.str Ty.v l),.box zC,.box [.map 3]]):=by
 have e:(l.map fun p=>(p.1,p.2.v)).map (·.1)=l.map Prod.fst:=by simp [Function.comp_def]
 have:=gV vh (h:=[t.bx,u.bx,.box zC,.map (ae aa.str Ty.v l),.box zC,.box [.map 3]]) (m:=3) (o:=5) (kv:=l.map fun p=>(p.1,p.2.v)) rfl (by simp [ae,mK,Function.comp_def]) (by rw [e];exact hl.1)
  (fun p hp=>by obtain ⟨q,hq,rfl⟩:=List.mem_map.1 hp;exact hl.2.1 q hq) (by rw [List.length_map];have:=hl.2.2;omega)
 rw [e] at this
 exact this
noncomputable def c83:Code:=aE Tryz.f83
theorem Iz {p:Prop} (h:p:=by simp only [List.length_append,List.length_cons,List.length_nil];omega):p:=h
theorem ov (t u:Ty) (l:Fd) (n:Int) (hl:tT l):av cx 83 [.map 3,.int .i64 (n)] [t.bx,u.bx,.box zC,.map (ae aa.str Ty.v l)] (fun v h=>v=(Ty.v (recT l n))∧h=[t.bx,u.bx,.box zC,.map (ae aa.str Ty.v l)]):=by
 have hsl:=zi hl
 refine ap (cx:=cx) 30 4 [(ResultVar.cell 4 25)] Tryz.func83 rfl rfl rfl rfl rfl zq ?_
 show wpA cx 30 4 (at_ c83 []) _ _ _
 refine qZ [(0,.map 3),(1,.int .i64 (n))] [t.bx,u.bx,.box zC,.map (ae aa.str Ty.v l)] ?_ ?_
 refine qW 1 [(0,.map 3),(1,.int .i64 (n)),(4,.ptr 4 0)] [t.bx,u.bx,.box zC,.map (ae aa.str Ty.v l),.box zC] ?_ ?_
 refine qV 2 ?_ ?_
 refine cM (args:=[.map 3]) (v:=.fn (.func 127) [] [.ptr 5 0]) (h':=[t.bx,u.bx,.box zC,.map (ae aa.str Ty.v l),.box zC,.box [.map 3]]) [t.bx,u.bx,.box zC,.map (ae aa.str Ty.v l),.box zC] kq kq kq kq kq (Eb t u l) ?_
 refine cM (args:=[.fn (.func 127) [] [.ptr 5 0]]) (v:=.imm ((aC (l.map Prod.fst)).map aa.str)) (h':=[t.bx,u.bx,.box zC,.map (ae aa.str Ty.v l),.box zC,.box [.map 3]]) [t.bx,u.bx,.box zC,.map (ae aa.str Ty.v l),.box zC,.box [.map 3]] kq kq kq kq kq (B9 t u l hl) ?_
 refine qR 3 [(0,.map 3),(4,.ptr 4 0),(5,.ptr 6 0)] [t.bx,u.bx,.box zC,.map (ae aa.str Ty.v l),.box zC,.box [.map 3],.box [.int .i64 5,.str [],.int .i64 (n),.imm ((aC (l.map Prod.fst)).map aa.str),.full []]] ?_ ?_
 refine mo 6 4 5 (cs:=[.int .i64 5,.str [],.int .i64 (n),.imm ((aC (l.map Prod.fst)).map aa.str),.full []]) [.int .i64 5,.str [],.int .i64 (n),.imm ((aC (l.map Prod.fst)).map aa.str),.own 7 0 0] dq kq kq kq ?_
 refine qZ [(0,.map 3),(4,.ptr 4 0),(5,.ptr 6 0)] [t.bx,u.bx,.box zC,.map (ae aa.str Ty.v l),.box zC,.box [.map 3],.box [.int .i64 5,.str [],.int .i64 (n),.imm ((aC (l.map Prod.fst)).map aa.str),.own 7 0 0],.arr 5 (([]:List (Ty)).map Ty.enc) 0] ?_ ?_
 refine ar ?_ ?_
 refine qV 2 ?_ ?_
 refine qy (au (l:=(aC (l.map Prod.fst))) (enc:=aa.str) kq bi) ?_ ?_ ?_
 refine qR 1 [(0,.map 3),(4,.ptr 4 0),(5,.ptr 6 0),(14,.imm ((aC (l.map Prod.fst)).map aa.str)),(15,nI ((aC (l.map Prod.fst)).length)),(16,.int .i64 0)] [t.bx,u.bx,.box zC,.map (ae aa.str Ty.v l),.box zC,.box [.map 3],.box [.int .i64 5,.str [],.int .i64 (n),.imm ((aC (l.map Prod.fst)).map aa.str),.own 7 0 0],.arr 5 (([]:List (Ty)).map Ty.enc) 0] ?_ ?_
 refine qB 0 ?_ ?_ ?_
 refine bR (σ:=Nat) (fun k=>[(0,.map 3),(4,.ptr 4 0),(5,.ptr 6 0),(14,.imm ((aC (l.map Prod.fst)).map aa.str)),(15,.int .i64 (((aC (l.map Prod.fst)).length:Nat):Int)),(16,.int .i64 ((k:Nat):Int))]) (fun k=>[t.bx,u.bx,.box zC,.map (ae aa.str Ty.v l),.box zC,.box [.map 3],.box [.int .i64 5,.str [],.int .i64 (n),.imm ((aC (l.map Prod.fst)).map aa.str),.own 7 0 (b5 l k).length],.arr 5 ((b5 l k).map Ty.enc) 0]) (fun k=>k≤(aC (l.map Prod.fst)).length) (fun k=>(aC (l.map Prod.fst)).length - k) 0 kq (by exact Nat.zero_le _) ⟨⟨kq,kq,kq,kq,kq,kq,trivial⟩,by simp [aV,aa.bel],by simp,kq,by simp [ai.belO,bM,Ty.enc_v]⟩ ?_
 rintro k hk
 have hrl:=wH l k hk
 refine qW 1 [(0,.map 3),(4,.ptr 4 0),(5,.ptr 6 0),(14,.imm ((aC (l.map Prod.fst)).map aa.str)),(15,nI ((aC (l.map Prod.fst)).length)),(16,nI k),(17,.bool (decide (((k:Nat):Int)<(((aC (l.map Prod.fst)).length:Nat):Int))))] [t.bx,u.bx,.box zC,.map (ae aa.str Ty.v l),.box zC,.box [.map 3],.box [.int .i64 5,.str [],.int .i64 (n),.imm ((aC (l.map Prod.fst)).map aa.str),.own 7 0 (b5 l k).length],.arr 5 ((b5 l k).map Ty.enc) 0] ?_ ?_
 refine ar ?_ ?_
 by_cases hb1:((k:Nat):Int)<(((aC (l.map Prod.fst)).length:Nat):Int)
 refine qt (decide_eq_true hb1) ?_ ?_
 refine qK ?_ ?_
 refine qz [(0,.map 3),(4,.ptr 4 0),(5,.ptr 6 0),(14,.imm ((aC (l.map Prod.fst)).map aa.str)),(15,nI ((aC (l.map Prod.fst)).length)),(16,nI k)] ?_ ?_
 refine ar ?_ ?_
 refine qB 1 ?_ ?_ ?_
 refine qO ?_ ?_
 refine qy (ax (k:=.i64) (l:=(aC (l.map Prod.fst))) (enc:=aa.str) (i:=((k:Nat):Int)) [] kq bi ty9 (fun _=>rfl) oq oq) ?_ ?_ ?_
 refine qR 2 [(0,.map 3),(4,.ptr 4 0),(5,.ptr 6 0),(7,.str ((aC (l.map Prod.fst)).getD k [])),(14,.imm ((aC (l.map Prod.fst)).map aa.str)),(15,nI ((aC (l.map Prod.fst)).length)),(16,nI k)] [t.bx,u.bx,.box zC,.map (ae aa.str Ty.v l),.box zC,.box [.map 3],.box [.int .i64 5,.str [],.int .i64 (n),.imm ((aC (l.map Prod.fst)).map aa.str),.own 7 0 (b5 l k).length],.arr 5 ((b5 l k).map Ty.enc) 0] ?_ ?_
 refine qo ?_ ?_
 refine qr 4 ?_ ?_
 rcases hm2:am ((aC (l.map Prod.fst)).getD k []) l with _|x2
 · exact absurd hm2 (te oq)
 refine qy (cH (ok:=false) (o:=3) (ek:=aa.str) (ev:=Ty.v) (l:=l) (k:=((aC (l.map Prod.fst)).getD k [])) (x:=x2) pw hm2 kq sw ty9 rfl bX kq) ?_ ?_ ?_
 refine qr 1 ?_ ?_
 refine qY (bh (o:=7) (len:=((b5 l k).length)) (l:=(b5 l k)) (xs:=[x2]) (enc:=Ty.enc) (sz:=5) (fr:=0) (x:=(.full [Ty.v x2])) kq bf bX bf rfl kq rfl rfl (Eq.trans (b:=some [Ty.v x2]) kq (by simp [Ty.enc_v])) ⟨by decide,by kernel_rfl⟩ gQ Iz Iz) ?_ ?_ ?_
 refine qr 2 ?_ ?_
 refine qe ?_ ?_
 refine ak ?_
 refine ab ?_
 refine qZ [(0,.map 3),(4,.ptr 4 0),(5,.ptr 6 0),(14,.imm ((aC (l.map Prod.fst)).map aa.str)),(15,nI ((aC (l.map Prod.fst)).length)),(16,nI k)] [t.bx,u.bx,.box zC,.map (ae aa.str Ty.v l),.box zC,.box [.map 3],.box [.int .i64 5,.str [],.int .i64 (n),.imm ((aC (l.map Prod.fst)).map aa.str),.own 7 0 ((b5 l k)++[x2]).length],.arr 5 (((b5 l k)++[x2]).map Ty.enc) 0] ?_ ?_
 refine qo ?_ ?_
 refine qy (aN (a:=((k:Nat):Int)) (b:=1) kq oq oq) ?_ ?_ ?_
 refine qr 1 ?_ ?_
 refine qe ?_ ?_
 refine ab ⟨k+1,?_,?_,⟨⟨kq,kq,kq,kq,kq,kq,trivial⟩,by simp [aV,aa.bel],by simp,(Eq.trans (b:=[t.bx,u.bx,.box zC,.map (ae aa.str Ty.v l),.box zC,.box [.map 3],.box [.int .i64 5,.str [],.int .i64 (n),.imm ((aC (l.map Prod.fst)).map aa.str),.own 7 0 ((b5 l k)++[x2]).length],.arr 5 (((b5 l k)++[x2]).map Ty.enc) 0]) kq (by rw [sE oq aq])),by simp [ai.belO,bM,Ty.enc_v]⟩⟩
 · omega
 · omega
 iterate 25 kernel_rfl
 refine qf (decide_eq_false hb1) ?_ ?_
 refine bC 0 kq kq ?_
 refine af ?_
 refine af ?_
 refine aA ?_
 refine ab ?_
 refine qz [(4,.ptr 4 0),(5,.ptr 6 0)] ?_ ?_
 refine sD 6 4 7 (cs:=[.int .i64 5,.str [],.int .i64 (n),.imm ((aC (l.map Prod.fst)).map aa.str),.own 7 0 (b5 l k).length]) (es:=((b5 l k).map Ty.enc)) (off:=0) (len:=((b5 l k).length)) (sz:=5) (fr:=0) [.int .i64 5,.str [],.int .i64 (n),.imm ((aC (l.map Prod.fst)).map aa.str),.imm ((b5 l k).map Ty.enc)] ((b5 l k).map Ty.enc) dq kq kq kq zq kq kq ?_
 refine qZ [(4,.ptr 4 0),(5,.ptr 6 0)] [t.bx,u.bx,.box zC,.map (ae aa.str Ty.v l),.box zC,.box [.map 3],.box [.int .i64 5,.str [],.int .i64 (n),.imm ((aC (l.map Prod.fst)).map aa.str),.imm ((b5 l k).map Ty.enc)],.arr 5 ((b5 l k).map Ty.enc) ((b5 l k).map Ty.enc).length] ?_ ?_
 refine qW 2 [(4,.ptr 4 0)] [t.bx,u.bx,.box zC,.map (ae aa.str Ty.v l),.box [.int .i64 5,.str [],.int .i64 (n),.imm ((aC (l.map Prod.fst)).map aa.str),.imm ((b5 l k).map Ty.enc)],.box [.map 3],.box [.int .i64 5,.str [],.int .i64 (n),.imm ((aC (l.map Prod.fst)).map aa.str),.imm ((b5 l k).map Ty.enc)],.arr 5 ((b5 l k).map Ty.enc) ((b5 l k).map Ty.enc).length] ?_ ?_
 refine bb kq ?_
 refine aL (l:=[.agg [.int .i64 5,.str [],.int .i64 (n),.imm ((aC (l.map Prod.fst)).map aa.str),.imm ((b5 l k).map Ty.enc)]]) (.inr rfl) kq (by have hkk:k=(aC (l.map Prod.fst)).length:=oq;subst hkk;simp [Ty.v,aa.frz,bo,aK,recT]) (by simp [aK]) (by simp [aK]) ?_ ?_
 refine Eq.trans (b:=[t.bx,u.bx,.box zC,.map (ae aa.str Ty.v l)]) kq ?_
 · rfl
 · simp [ai.belO,hpV,Ty.v]
 iterate 18 kernel_rfl
def onL (t u:Ty):Nat→Fd
 | 0=>[]
 | k+1=>if u.names.contains (t.names.getD k [])=true then onL t u k else aJ (t.names.getD k []) (t.kids.getD k Ty.zero) (onL t u k)
theorem F1 {t u:Ty} {k:Nat} (h:u.names.contains (t.names.getD k [])=true):onL t u k=onL t u (k+1):=by rw [onL,if_pos h]
theorem GR {t u:Ty} {k:Nat} (h:¬ u.names.contains (t.names.getD k [])=true):aJ (t.names.getD k []) (t.kids.getD k Ty.zero) (onL t u k)=onL t u (k+1):=by rw [onL,if_neg h]
theorem fV (s:List UInt8) (x:Ty):∀ l:Fd,(aJ s x l).map Prod.fst=if s∈l.map Prod.fst then l.map Prod.fst else l.map Prod.fst++[s]
 | []=>by simp [aJ]
 | p::l=>by
  rw [aJ]
  by_cases e:s=p.1
  · rw [if_pos e,List.map_cons,if_pos (by rw [List.map_cons];exact List.mem_cons.2 (.inl e)),List.map_cons,e]
  · rw [if_neg e,List.map_cons,List.map_cons,fV s x l]
    by_cases hm:s∈l.map Prod.fst
    · rw [if_pos hm,if_pos (List.mem_cons_of_mem _ hm)]
    · rw [if_neg hm,if_neg (by simp only [List.mem_cons,not_or];exact ⟨e,hm⟩)];rfl
theorem fd (t u:Ty):∀ k,((onL t u k).map Prod.fst).Nodup∧(onL t u k).length≤k∧∀ s∈(onL t u k).map Prod.fst,∃ i,i<k∧s=t.names.getD i []
 | 0=>by simp [onL]
 | k+1=>by
  obtain ⟨h1,h2,h3⟩:=fd t u k
  rw [onL]
  split
  · exact ⟨h1,by omega,fun s hs=>by obtain ⟨i,hi,e⟩:=h3 s hs;exact ⟨i,by omega,e⟩⟩
  · have hl:(aJ (t.names.getD k []) (t.kids.getD k Ty.zero) (onL t u k)).length≤k+1:=by
     rw [← List.length_map (f:=Prod.fst),fV]
     split
     · rw [List.length_map];omega
     · rw [List.length_append,List.length_map];simp;omega
    refine ⟨?_,hl,?_⟩
    · rw [fV]
      split
      · exact h1
      · rename_i hm
        rw [List.nodup_append]
        exact ⟨h1,by simp,fun a ha b hb=>by simp only [List.mem_singleton] at hb;subst hb;rintro rfl;exact hm ha⟩
    · intro s hs
      rw [fV] at hs
      split at hs
      · obtain ⟨i,hi,e⟩:=h3 s hs;exact ⟨i,by omega,e⟩
      · rcases List.mem_append.1 hs with hs|hs
        · obtain ⟨i,hi,e⟩:=h3 s hs;exact ⟨i,by omega,e⟩
        · exact ⟨k,by omega,by simpa using hs⟩
theorem Hm (t u:Ty) (k:Nat) (hs:t.sz<100000000) (hk:k≤t.names.length):tT (onL t u k):=by
 obtain ⟨h1,h2,h3⟩:=fd t u k
 have hn:=bK t
 refine ⟨h1,fun p hp=>?_,by omega⟩
 obtain ⟨i,_,e⟩:=h3 p.1 (List.mem_map_of_mem hp)
 rw [e]
 have:=fi t i
 omega
noncomputable def JR:Code:=aE Tryz.f100
theorem Gj {p:Prop} (h:p:=by simp [ai.belO,Ty.v]):p:=h
theorem nf (t u:Ty) (n:Int) (hs:t.sz<100000000) (hu:u.sz<100000000) (hnk:t.names.length=t.kids.length):ay cx 100 [Ty.v t,Ty.v u,.int .i64 (n)] (Ty.v (recT (onL t u t.names.length) n)):=by
 have hz1:=bK t
 have hz2:=ct t
 have hz3:=bK u
 refine ap (cx:=cx) 35 0 [(ResultVar.cell 6 25)] Tryz.func100 rfl rfl rfl rfl rfl zq ?_
 show wpA cx 35 0 (at_ JR []) _ _ _
 refine qZ [(0,Ty.v t),(1,Ty.v u),(2,.int .i64 (n))] [] ?_ ?_
 refine qW 3 [(2,.int .i64 (n)),(3,.ptr 0 0),(4,.ptr 1 0),(6,.ptr 2 0)] [t.bx,u.bx,.box zC] ?_ ?_
 refine qW 2 [(2,.int .i64 (n)),(3,.ptr 0 0),(4,.ptr 1 0),(6,.ptr 2 0),(7,.map 3)] [t.bx,u.bx,.box zC,.map (ae aa.str Ty.v ([]:List (List UInt8×Ty)))] ?_ ?_
 refine ar ?_ ?_
 refine qV 2 ?_ ?_
 refine qy (au (l:=t.names) (enc:=aa.str) kq bi) ?_ ?_ ?_
 refine qR 1 [(2,.int .i64 (n)),(3,.ptr 0 0),(4,.ptr 1 0),(6,.ptr 2 0),(7,.map 3),(12,.imm (t.names.map aa.str)),(13,nI t.names.length),(14,.int .i64 0)] [t.bx,u.bx,.box zC,.map (ae aa.str Ty.v ([]:List (List UInt8×Ty)))] ?_ ?_
 refine qB 0 ?_ ?_ ?_
 refine bR (σ:=Nat) (fun k=>[(2,.int .i64 (n)),(3,.ptr 0 0),(4,.ptr 1 0),(6,.ptr 2 0),(7,.map 3),(12,.imm (t.names.map aa.str)),(13,.int .i64 ((t.names.length:Nat):Int)),(14,.int .i64 ((k:Nat):Int))]) (fun k=>[t.bx,u.bx,.box zC,.map (ae aa.str Ty.v (onL t u k))]) (fun k=>k≤t.names.length) (fun k=>t.names.length - k) 0 kq (by exact Nat.zero_le _) ⟨⟨kq,kq,kq,kq,kq,kq,kq,kq,trivial⟩,by simp [aV,aa.bel],by simp,kq,by simp [ai.belO]⟩ ?_
 rintro k hk
 refine qW 1 [(2,.int .i64 (n)),(3,.ptr 0 0),(4,.ptr 1 0),(6,.ptr 2 0),(7,.map 3),(12,.imm (t.names.map aa.str)),(13,nI t.names.length),(14,nI k),(15,.bool (decide (((k:Nat):Int)<((t.names.length:Nat):Int))))] [t.bx,u.bx,.box zC,.map (ae aa.str Ty.v (onL t u k))] ?_ ?_
 refine ar ?_ ?_
 by_cases hb1:((k:Nat):Int)<((t.names.length:Nat):Int)
 refine qt (decide_eq_true hb1) ?_ ?_
 refine qK ?_ ?_
 refine qz [(2,.int .i64 (n)),(3,.ptr 0 0),(4,.ptr 1 0),(6,.ptr 2 0),(7,.map 3),(12,.imm (t.names.map aa.str)),(13,nI t.names.length),(14,nI k)] ?_ ?_
 refine ar ?_ ?_
 refine qB 1 ?_ ?_ ?_
 refine qV 1 ?_ ?_
 refine qy (ax (k:=.i64) (l:=t.names) (enc:=aa.str) (i:=((k:Nat):Int)) [] kq bi ty9 (fun _=>rfl) oq oq) ?_ ?_ ?_
 refine qR 3 [(2,.int .i64 (n)),(3,.ptr 0 0),(4,.ptr 1 0),(6,.ptr 2 0),(7,.map 3),(8,nI k),(9,.str (t.names.getD k [])),(12,.imm (t.names.map aa.str)),(13,nI t.names.length),(14,nI k)] [t.bx,u.bx,.box zC,.map (ae aa.str Ty.v (onL t u k))] ?_ ?_
 refine qV 3 ?_ ?_
 refine bp (args:=[.imm (u.names.map aa.str),.str (t.names.getD k [])]) kq kq kq kq (fo u.names (t.names.getD k []) oq) (by simp [Ty.v,bm,Occ.v]) (by simp [Ty.v]) (by simp [Ty.v,a7]) ?_
 refine qR 1 [(2,.int .i64 (n)),(3,.ptr 0 0),(4,.ptr 1 0),(6,.ptr 2 0),(7,.map 3),(8,nI k),(9,.str (t.names.getD k [])),(12,.imm (t.names.map aa.str)),(13,nI t.names.length),(14,nI k),(23,.bool (!(u.names.contains (t.names.getD k []))))] [t.bx,u.bx,.box zC,.map (ae aa.str Ty.v (onL t u k))] ?_ ?_
 by_cases hb2:(u.names.contains (t.names.getD k []))=true
 refine qf (x:=(!(u.names.contains (t.names.getD k [])))) (congrArg not (hb2)) ?_ ?_
 refine qk ?_ ?_
 refine ak ?_
 refine ab ?_
 refine qz [(2,.int .i64 (n)),(3,.ptr 0 0),(4,.ptr 1 0),(6,.ptr 2 0),(7,.map 3),(12,.imm (t.names.map aa.str)),(13,nI t.names.length),(14,nI k)] ?_ ?_
 refine qo ?_ ?_
 refine qy (aN (a:=((k:Nat):Int)) (b:=1) kq oq oq) ?_ ?_ ?_
 refine qr 1 ?_ ?_
 refine qe ?_ ?_
 refine ab ⟨k+1,?_,?_,⟨⟨kq,kq,kq,kq,kq,kq,kq,kq,trivial⟩,by simp [aV,aa.bel],by simp,(Eq.trans (b:=[t.bx,u.bx,.box zC,.map (ae aa.str Ty.v (onL t u k))]) kq (by rw [F1 aq])),by simp [ai.belO]⟩⟩
 · omega
 · omega
 iterate 8 kernel_rfl
 refine qt (x:=(!(u.names.contains (t.names.getD k [])))) (congrArg not (Bool.eq_false_iff.2 hb2)) ?_ ?_
 refine qo ?_ ?_
 refine qr 5 ?_ ?_
 refine qy ((ax (k:=.i64) (l:=t.kids) (enc:=Ty.enc) (i:=((k:Nat):Int)) Ty.zero kq bf bX bg oq oq).trans (congrArg (fun cs=>some (aa.pimm cs 0,_)) (aO (t.kids.getD k Ty.zero)))) ?_ ?_ ?_
 refine qr 1 ?_ ?_
 refine qY (dc (o:=3) (ek:=aa.str) (ev:=Ty.v) (l:=(onL t u k)) (k:=(t.names.getD k [])) (x:=(t.kids.getD k Ty.zero)) pw kq sw ty9 rfl kq kq) ?_ ?_ ?_
 refine qe ?_ ?_
 refine ak ?_
 refine ab ?_
 refine qZ [(2,.int .i64 (n)),(3,.ptr 0 0),(4,.ptr 1 0),(6,.ptr 2 0),(7,.map 3),(12,.imm (t.names.map aa.str)),(13,nI t.names.length),(14,nI k)] [t.bx,u.bx,.box zC,.map (ae aa.str Ty.v (aJ (t.names.getD k []) (t.kids.getD k Ty.zero) (onL t u k)))] ?_ ?_
 refine qo ?_ ?_
 refine qy (aN (a:=((k:Nat):Int)) (b:=1) kq oq oq) ?_ ?_ ?_
 refine qr 1 ?_ ?_
 refine qe ?_ ?_
 refine ab ⟨k+1,?_,?_,⟨⟨kq,kq,kq,kq,kq,kq,kq,kq,trivial⟩,by simp [aV,aa.bel],by simp,(Eq.trans (b:=[t.bx,u.bx,.box zC,.map (ae aa.str Ty.v (aJ (t.names.getD k []) (t.kids.getD k Ty.zero) (onL t u k)))]) kq (by rw [GR aq])),by simp [ai.belO]⟩⟩
 · omega
 · omega
 iterate 27 kernel_rfl
 refine qf (decide_eq_false hb1) ?_ ?_
 refine bC 0 kq kq ?_
 refine af ?_
 refine af ?_
 refine aA ?_
 refine ab ?_
 refine qz [(2,.int .i64 (n)),(6,.ptr 2 0),(7,.map 3)] ?_ ?_
 refine qV 2 ?_ ?_
 refine aT (args:=[.map 3,.int .i64 (n)]) (hs:=[t.bx,u.bx,.box zC,.map (ae aa.str Ty.v (onL t u k))]) (hs':=[t.bx,u.bx,.box zC,.map (ae aa.str Ty.v (onL t u k))]) (aM:=[]) kq kq kq kq kq (ov t u (onL t u k) (n) (by (first|exact Hm t u _ hs oq))) Gj Gj rfl Gj Gj kq ?_
 refine qR 1 [(6,.ptr 2 0)] [t.bx,u.bx,(recT (onL t u k) (n)).bx,.map (ae aa.str Ty.v (onL t u k))] ?_ ?_
 refine bb kq ?_
 refine eP (l:=[.agg [.int .i64 ((recT (onL t u k) (n)).kind),.str (recT (onL t u k) (n)).name,.int .i64 ((recT (onL t u k) (n)).n),.imm ((recT (onL t u k) (n)).names.map aa.str),.imm ((recT (onL t u k) (n)).kids.map Ty.enc)]]) (.inr rfl) kq ?_
 · obtain rfl:k=t.names.length:=by omega
   simp [Ty.v,aa.frz,bo,aK]
 iterate 16 kernel_rfl
theorem CN {l:List (List UInt8)} (h:l.Pairwise (fun a b=>a<b)):aC l=l:=by
 refine List.Perm.eq_of_pairwise (le:=fun a b=>leB a b=true) (fun a b _ _ h1 h2=>?_) (fF l) (h.imp fun {a b} hab=>?_) (bQ l)
 · simp only [leB,decide_eq_true_eq] at h1 h2
   exact List.le_antisymm h1 h2
 · simp only [leB,decide_eq_true_eq];exact List.le_of_lt hab
theorem wB {s:List UInt8} {x:Ty}:∀ {l:Fd},s∉l.map Prod.fst→aJ s x l=l++[(s,x)]
 | [],_=>rfl
 | p::l,h=>by
  simp only [List.map_cons,List.mem_cons,not_or] at h
  rw [aJ,if_neg h.1,wB h.2];rfl
theorem yZ {l:List (List UInt8)} (h:l.Nodup) {i k:Nat} (hi:i<k) (hk:k<l.length):¬ l.getD k []=l.getD i []:=by
 rw [List.getD_eq_getElem?_getD,List.getD_eq_getElem?_getD,List.getElem?_eq_getElem hk,List.getElem?_eq_getElem (by omega:i<l.length)]
 intro e
 have:=(List.getElem_inj h).1 (show l[k]=l[i] from e)
 omega
theorem C7 {c t:Ty} (hnd:c.names.Nodup) (hnk:c.names.length=c.kids.length):∀ k,k≤c.names.length→onL c t k=woL c t k
 | 0,_=>by simp [onL,woL]
 | k+1,hk=>by
  have ih:=C7 (t:=t) hnd hnk k oq
  rw [Dc oq hnk,onL,ih]
  have hc:=hZ t.names (c.names.getD k [])
  by_cases hx:aQ t.names (c.names.getD k [])<0
  · rw [if_pos hx,if_neg (by rw [← hc,decide_eq_true_eq];omega)]
    refine wB ?_
    intro hm
    rw [← ih] at hm
    obtain ⟨i,hi,e⟩:=(fd c t k).2.2 _ hm
    exact yZ hnd hi oq e
  · rw [if_neg hx,if_pos (by rw [← hc,decide_eq_true_eq];omega),List.append_nil]
theorem tF:∀ {l:Fd},(l.map Prod.fst).Nodup→(l.map Prod.fst).map (fun s=>(am s l).getD Ty.zero)=l.map Prod.snd
 | [],_=>rfl
 | p::l,h=>by
  simp only [List.map_cons,List.nodup_cons] at h ⊢
  rw [am,if_pos rfl,← tF h.2]
  refine congrArg (p.2::·) (List.map_congr_left fun s hs=>?_)
  rw [am,if_neg (by rintro rfl;exact h.1 hs)]
theorem u9 (c t:Ty) (k:Nat):(woL c t k).Sublist (c.names.zip c.kids):=List.filter_sublist.trans (List.take_sublist _ _)
theorem ui:∀ {a:List (List UInt8)} {b:List Ty},a.length=b.length→(a.zip b).map Prod.fst=a
 | [],_,_=>rfl
 | x::a,y::b,h=>by simp only [List.zip_cons_cons,List.map_cons,ui (a:=a) (b:=b) (by simpa using h)]
 | x::a,[],h=>by simp at h
theorem AO:∀ {a:List (List UInt8)} {b:List Ty},a.length=b.length→(a.zip b).map Prod.snd=b
 | [],[],_=>rfl
 | [],y::b,h=>by simp at h
 | x::a,y::b,h=>by simp only [List.zip_cons_cons,List.map_cons,AO (a:=a) (b:=b) (by simpa using h)]
 | x::a,[],h=>by simp at h
theorem z8 {c t:Ty} (hs:c.names.Pairwise (fun a b=>a<b)) (hnk:c.names.length=c.kids.length):recT (onL c t c.names.length) c.n=woT c t c.names.length:=by
 have hnd:c.names.Nodup:=hs.imp fun {a b} h=>by rintro rfl;exact absurd h (List.lt_irrefl a)
 rw [C7 hnd hnk _ (Nat.le_refl _)]
 have hsub:((woL c t c.names.length).map Prod.fst).Sublist c.names:=by
  have:=(u9 c t c.names.length).map Prod.fst
  rwa [ui hnk] at this
 have e:=CN (hs.sublist hsub)
 unfold recT woT b5
 rw [e,List.take_length,tF (hnd.sublist hsub)]
theorem FR {a b:List (List UInt8)} (h:a.Sublist b):szS a≤szS b:=by
 induction h with
 | slnil=>exact Nat.le_refl _
 | cons x _ ih=>simp only [szS];omega
 | cons_cons x _ ih=>simp only [szS];omega
theorem FE {a b:List Ty} (h:a.Sublist b):Ty.szL a≤Ty.szL b:=by
 induction h with
 | slnil=>exact Nat.le_refl _
 | cons x _ ih=>simp only [Ty.szL];omega
 | cons_cons x _ ih=>simp only [Ty.szL];omega
theorem Db {c t:Ty} (hnk:c.names.length=c.kids.length) (k:Nat):(woT c t k).sz≤c.sz:=by
 have h1:=FR ((u9 c t k).map Prod.fst)
 have h2:=FE ((u9 c t k).map Prod.snd)
 rw [ui hnk] at h1
 rw [AO hnk] at h2
 have e:=gP c
 simp only [woT,Ty.sz,List.length_nil]
 omega
def okN (t:Ty):Prop:=(t.kind=4→t.kids.length=1)∧(t.kind=5→t.names.length=t.kids.length∧t.names.Pairwise (fun a b=>a<b))
mutual
def gd:Ty→Prop
 | .mk k x n l ks=>okN (.mk k x n l ks)∧gdL ks
def gdL:List Ty→Prop
 | []=>True
 | t::l=>gd t∧gdL l
end
theorem sZ {t:Ty} (h:gd t):okN t:=by cases t;simp only [gd] at h;exact h.1
theorem EP {t:Ty} (h:gd t):gdL t.kids:=by cases t;simp only [gd] at h;exact h.2
theorem Em:∀ {l:List Ty},gdL l→∀ i,i<l.length→gd (l.getD i Ty.zero)
 | [],_,i,hi=>by simp at hi
 | t::l,h,0,_=>by simp only [gdL] at h;exact h.1
 | t::l,h,i+1,hi=>by simp only [gdL] at h;exact Em h.2 i (by simpa using hi)
theorem Al:gd Ty.zero:=by simp [Ty.zero,gd,gdL,okN]
theorem pd {t:Ty} (h:gd t) (i:Nat) (hi:i<t.kids.length):gd (t.kids.getD i Ty.zero):=Em (EP h) i hi
mutual
def mT:Ty→Ty→Bd→Bool×Bd
 | .mk k x n ns ks,c,m =>
  if k=6 then (mI m n c,aJ n c m)
  else if ¬ k=c.kind∨¬ x=c.name then (false,m)
  else if k=5 then
   if (mTL ns ks c m).1=true then
    if n=0 then (decide (c.n=0) && decide (ns.length=c.names.length),(mTL ns ks c m).2)
    else (mI (mTL ns ks c m).2 n (recT (onL c (.mk k x n ns ks) c.names.length) c.n),aJ n (recT (onL c (.mk k x n ns ks) c.names.length) c.n) (mTL ns ks c m).2)
   else (false,(mTL ns ks c m).2)
  else if k=4 then mT0 ks (c.kids.getD 0 Ty.zero) m
  else (true,m)
def mT0:List Ty→Ty→Bd→Bool×Bd
 | [],_,m=>(false,m)
 | t::_,c,m=>mT t c m
def mTL:List (List UInt8)→List Ty→Ty→Bd→Bool×Bd
 | s::ns,t::ks,c,m =>
  if aQ c.names s<0 then (false,m)
  else if (mT t (c.kids.getD (aQ c.names s).toNat Ty.zero) m).1=true then mTL ns ks c (mT t (c.kids.getD (aQ c.names s).toNat Ty.zero) m).2
  else (false,(mT t (c.kids.getD (aQ c.names s).toNat Ty.zero) m).2)
 | _,_,_,m=>(true,m)
end
theorem He {t c:Ty} {m:Bd} (h:t.kind=6):mT t c m=(mI m t.n c,aJ t.n c m):=by cases t;simp only [Ty.kind_mk] at h;rw [mT,if_pos h];rfl
theorem Ae {t c:Ty} {m:Bd} (h6:¬ t.kind=6) (h:¬ t.kind=c.kind∨¬ t.name=c.name):mT t c m=(false,m):=by cases t;simp only [Ty.kind_mk,Ty.name_mk] at h6 h;rw [mT,if_neg h6,if_pos h]
theorem Im {t c:Ty} {m:Bd} (h5:t.kind=5) (h:¬ (¬ t.kind=c.kind∨¬ t.name=c.name)) (hf:¬ (mTL t.names t.kids c m).1=true):mT t c m=(false,(mTL t.names t.kids c m).2):=by
 cases t;simp only [Ty.kind_mk,Ty.name_mk,Ty.names_mk,Ty.kids_mk] at h5 h hf ⊢;rw [mT,if_neg oq,if_neg h,if_pos h5,if_neg hf]
theorem GN {t c:Ty} {m:Bd} (h5:t.kind=5) (h:¬ (¬ t.kind=c.kind∨¬ t.name=c.name)) (hf:(mTL t.names t.kids c m).1=true) (hn:¬ t.n=0):mT t c m=(mI (mTL t.names t.kids c m).2 t.n (recT (onL c t c.names.length) c.n),aJ t.n (recT (onL c t c.names.length) c.n) (mTL t.names t.kids c m).2):=by
 cases t;simp only [Ty.kind_mk,Ty.name_mk,Ty.names_mk,Ty.kids_mk,Ty.n_mk] at h5 h hf hn ⊢;rw [mT,if_neg oq,if_neg h,if_pos h5,if_pos hf,if_neg hn]
theorem GG {t c:Ty} {m:Bd} (h5:t.kind=5) (h:¬ (¬ t.kind=c.kind∨¬ t.name=c.name)) (hf:(mTL t.names t.kids c m).1=true) (hn:t.n=0):mT t c m=(decide (c.n=0) && decide (t.names.length=c.names.length),(mTL t.names t.kids c m).2):=by
 cases t;simp only [Ty.kind_mk,Ty.name_mk,Ty.names_mk,Ty.kids_mk,Ty.n_mk] at h5 h hf hn ⊢;rw [mT,if_neg oq,if_neg h,if_pos h5,if_pos hf,if_pos hn];rfl
theorem Hq {t c:Ty} {m:Bd} (h4:t.kind=4) (h:¬ (¬ t.kind=c.kind∨¬ t.name=c.name)) (hl:0<t.kids.length):mT t c m=mT (t.kids.getD 0 Ty.zero) (c.kids.getD 0 Ty.zero) m:=by
 obtain ⟨k,x,n,ns,ks⟩:=t
 simp only [Ty.kind_mk,Ty.name_mk,Ty.kids_mk] at h4 h hl ⊢
 rw [mT,if_neg oq,if_neg h,if_neg oq,if_pos h4]
 cases ks with
 | nil=>simp at hl
 | cons a l=>rfl
theorem Hx {t c:Ty} {m:Bd} (h6:¬ t.kind=6) (h:¬ (¬ t.kind=c.kind∨¬ t.name=c.name)) (h5:¬ t.kind=5) (h4:¬ t.kind=4):mT t c m=(true,m):=by
 cases t;simp only [Ty.kind_mk,Ty.name_mk] at h6 h h5 h4;rw [mT,if_neg h6,if_neg h,if_neg h5,if_neg h4]
theorem lX {α:Type} {l:List α} {k:Nat} {d:α} (h:k<l.length):l.drop k=l.getD k d::l.drop (k+1):=by
 rw [List.drop_eq_getElem_cons h,List.getD_eq_getElem?_getD,List.getElem?_eq_getElem h];rfl
theorem jt {t c:Ty} {k:Nat} {q:Bd} (h:k<t.names.length) (hnk:t.names.length=t.kids.length):mTL (t.names.drop k) (t.kids.drop k) c q =
 if aQ c.names (t.names.getD k [])<0 then (false,q)
 else if (mT (t.kids.getD k Ty.zero) (c.kids.getD (aQ c.names (t.names.getD k [])).toNat Ty.zero) q).1=true then mTL (t.names.drop (k+1)) (t.kids.drop (k+1)) c (mT (t.kids.getD k Ty.zero) (c.kids.getD (aQ c.names (t.names.getD k [])).toNat Ty.zero) q).2
 else (false,(mT (t.kids.getD k Ty.zero) (c.kids.getD (aQ c.names (t.names.getD k [])).toNat Ty.zero) q).2):=by
 rw [lX (d:=[]) h,lX (l:=t.kids) (d:=Ty.zero) oq,mTL]
theorem mu {t c:Ty} {k:Nat} {q:Bd} (h:t.names.length≤k):mTL (t.names.drop k) (t.kids.drop k) c q=(true,q):=by
 rw [List.drop_of_length_le h];unfold mTL;rfl
theorem AC {m:Bd} (hm:ro m) {n:Int} {t:Ty} (ht:t.sz<100000000):ro (aJ n t m):=by
 intro k x h
 rw [bE] at h
 split at h
 · cases h;exact ht
 · exact hm k x h
mutual
theorem AS:∀ (t c:Ty) (m:Bd),gd c→c.sz<100000000→ro m→ro (mT t c m).2
 | .mk k x n ns ks,c,m,hc,hs,hm=>by
  rw [mT]
  split
  · exact AC hm hs
  · split
    · exact hm
    · rename_i h1 h2
      split
      · rename_i h5
        have hc5:c.kind=5:=by
         by_cases e:k=c.kind
         · omega
         · exact absurd (.inl e) h2
        have hL:=DY ns ks c m hc hs hm
        split
        · split
          · exact hL
          · refine AC hL ?_
            have:=(sZ hc).2 hc5
            rw [z8 this.2 this.1]
            exact Nat.lt_of_le_of_lt (Db this.1 _) hs
        · exact hL
      · split
        · match ks with
          | []=>exact hm
          | t::l =>
           by_cases h0:0<c.kids.length
           · exact AS t (c.kids.getD 0 Ty.zero) m (pd hc 0 h0) (Nat.lt_trans (b9 c 0 h0) hs) hm
           · have e:c.kids.getD 0 Ty.zero=Ty.zero:=by rw [List.getD_eq_getElem?_getD,List.getElem?_eq_none oq];rfl
             rw [mT0,e]
             exact AS t Ty.zero m Al (by simp [Ty.zero,Ty.sz,szS,Ty.szL]) hm
        · exact hm
theorem DY:∀ (ns:List (List UInt8)) (ks:List Ty) (c:Ty) (m:Bd),gd c→c.sz<100000000→ro m→ro (mTL ns ks c m).2
 | [],_,c,m,_,_,hm=>by unfold mTL;exact hm
 | _::_,[],c,m,_,_,hm=>by unfold mTL;exact hm
 | s::ns,t::ks,c,m,hc,hs,hm=>by
  rw [mTL]
  split
  · exact hm
  · have hk:gd (c.kids.getD (aQ c.names s).toNat Ty.zero)∧(c.kids.getD (aQ c.names s).toNat Ty.zero).sz<100000000:=by
     by_cases h0:(aQ c.names s).toNat<c.kids.length
     · exact ⟨pd hc _ h0,Nat.lt_trans (b9 c _ h0) hs⟩
     · rw [List.getD_eq_getElem?_getD,List.getElem?_eq_none oq]
       exact ⟨Al,by simp [Ty.zero,Ty.sz,szS,Ty.szL]⟩
    have h1:=AS t (c.kids.getD (aQ c.names s).toNat Ty.zero) m hk.1 hk.2 hm
    split
    · exact DY ns ks c _ hc hs h1
    · exact h1
end
theorem FM {t c:Ty} {m r:Bd} (h5:t.kind=5) (h:¬ (¬ t.kind=c.kind∨¬ t.name=c.name)) (hL:mTL t.names t.kids c m=(false,r)):mT t c m=(false,r):=by
 rw [Im h5 h (by rw [hL];simp),hL]
theorem I1 {t c:Ty} {m r:Bd} (h5:t.kind=5) (h:¬ (¬ t.kind=c.kind∨¬ t.name=c.name)) (hL:mTL t.names t.kids c m=(true,r)) (hn:¬ t.n=0):mT t c m=(mI r t.n (recT (onL c t c.names.length) c.n),aJ t.n (recT (onL c t c.names.length) c.n) r):=by
 rw [GN h5 h (by rw [hL]) hn,hL]
theorem Hc {t c:Ty} {m r:Bd} (h5:t.kind=5) (h:¬ (¬ t.kind=c.kind∨¬ t.name=c.name)) (hL:mTL t.names t.kids c m=(true,r)) (hn:t.n=0):mT t c m=(decide (c.n=0) && decide (t.names.length=c.names.length),r):=by
 rw [GG h5 h (by rw [hL]) hn,hL]
theorem G3 {t c:Ty} (hg:gd c) (h:c.kind=5) (hs:c.sz<100000000):(recT (onL c t c.names.length) c.n).sz<100000000:=by
 have:=(sZ hg).2 h
 rw [z8 this.2 this.1]
 exact Nat.lt_of_le_of_lt (Db this.1 _) hs
theorem ik {a b:Int} {x y:List UInt8} (h1:a=b) (h2:x=y):¬ (¬ a=b∨¬ x=y):=by
 rintro (h|h)
 · exact h h1
 · exact h h2
noncomputable def c62:Code:=aE Tryz.f62
theorem kQ {p:Prop} (h:p:=by simp [ai.belO,hpV,Ty.v]):p:=h
theorem iL {p:Prop} (h:p:=by simp [aK]):p:=h
theorem yR (t c:Ty) (m:Bd) (hs:t.sz<100000000) (hsc:c.sz<100000000) (hg:gd t) (hgc:gd c) (hm:ro m):av cx 62 [Ty.v t,Ty.v c,.map 0] [.map (ae (aa.int .i64) Ty.v m)] (fun v h=>v=(.bool ((mT t c m).1))∧h=[.map (ae (aa.int .i64) Ty.v (mT t c m).2)]):=by
 induction hN:t.sz using Nat.strongRecOn generalizing t c m with|_ N ih =>
 have ihM:∀ (x y:Ty) (m:Bd),x.sz<t.sz→y.sz<100000000→gd x→gd y→ro m→av cx 62 [Ty.v x,Ty.v y,.map 0] [.map (ae (aa.int .i64) Ty.v m)] (fun v h=>v=(.bool (mT x y m).1)∧h=[.map (ae (aa.int .i64) Ty.v (mT x y m).2)]):=fun x y m h1 h2 h3 h4 h5=>ih _ (by rw [← hN];exact h1) x y m oq h2 h3 h4 h5 rfl
 have hz1:=bK t
 have hz2:=ct t
 have hz3:=bK c
 have hz4:=ct c
 have h4t:=(sZ hg).1
 have h4c:=(sZ hgc).1
 refine ap (cx:=cx) 107 1 [(ResultVar.tmp 6)] Tryz.func62 rfl rfl rfl rfl rfl zq ?_
 show wpA cx 107 1 (at_ c62 []) _ _ _
 refine qZ [(0,Ty.v t),(1,Ty.v c),(2,.map 0)] [.map (ae (aa.int .i64) Ty.v m)] ?_ ?_
 refine qW 4 [(3,.ptr 1 0),(4,.ptr 2 0),(5,.ptr 3 0)] [.map (ae (aa.int .i64) Ty.v m),t.bx,c.bx,.box [.map 0]] ?_ ?_
 refine qU 2 [(3,.ptr 1 0),(4,.ptr 2 0),(5,.ptr 3 0),(7,.fn (.func 98) [] [.ptr 3 0])] ?_ ?_
 refine ar ?_ ?_
 refine qB 0 ?_ ?_ ?_
 refine qU 4 [(3,.ptr 1 0),(4,.ptr 2 0),(5,.ptr 3 0),(7,.fn (.func 98) [] [.ptr 3 0]),(12,.bool ((t.kind)==6))] ?_ ?_
 by_cases hb1:(t.kind)=6
 refine qt (beq_iff_eq.2 hb1) ?_ ?_
 refine qV 4 ?_ ?_
 refine aT (args:=[.int .i64 (t.n),.agg [.int .i64 (c.kind),.str c.name,.int .i64 (c.n),.imm (c.names.map aa.str),.imm (c.kids.map Ty.enc)],.ptr 3 0]) (hs:=[.map (ae (aa.int .i64) Ty.v m),t.bx,c.bx,.box [.map 0]]) (hs':=[.map (ae (aa.int .i64) Ty.v (aJ (t.n) c m)),t.bx,c.bx,.box [.map 0]]) (aM:=[]) kq kq kq kq kq (sk (t.n) c t c m oq hm) kQ kQ rfl kQ kQ kq ?_
 refine qR 1 [(6,.bool (mI m (t.n) c))] [.map (ae (aa.int .i64) Ty.v (aJ (t.n) c m)),t.bx,c.bx,.box [.map 0]] ?_ ?_
 refine bb kq ?_
 apply iR
 apply aR
 refine aL (l:=[.bool (mI m (t.n) c)]) (.inr rfl) kq (congrArg aa.bool (congrArg Prod.fst (He aq)).symm) iL iL ?_ ?_
 refine Eq.trans (b:=[.map (ae (aa.int .i64) Ty.v (aJ (t.n) c m))]) kq ?_
 rotate_left
 · simp [ai.belO,hpV,Ty.v]
 iterate 3 kernel_rfl
 refine qf (beq_eq_false_iff_ne.2 hb1) ?_ ?_
 refine qV 6 ?_ ?_
 by_cases hb2:(t.kind)=(c.kind)
 refine qm [26,27] (x:=((t.kind) != (c.kind))) (bne_eq_false_iff_eq.2 hb2) ?_ ?_
 refine qR 7 [(3,.ptr 1 0),(4,.ptr 2 0),(5,.ptr 3 0),(7,.fn (.func 98) [] [.ptr 3 0]),(21,.bool (!(t.name==c.name)))] [.map (ae (aa.int .i64) Ty.v m),t.bx,c.bx,.box [.map 0]] ?_ ?_
 by_cases hb3:t.name=c.name
 refine qf (x:=(!(t.name==c.name))) (congrArg not (beq_iff_eq.2 hb3)) ?_ ?_
 refine qU 4 [(3,.ptr 1 0),(4,.ptr 2 0),(5,.ptr 3 0),(7,.fn (.func 98) [] [.ptr 3 0]),(34,.bool ((t.kind)==5))] ?_ ?_
 by_cases hb4:(t.kind)=5
 refine qt (beq_iff_eq.2 hb4) ?_ ?_
 refine ar ?_ ?_
 refine qV 2 ?_ ?_
 refine qy (au (l:=t.names) (enc:=aa.str) kq bi) ?_ ?_ ?_
 refine qR 1 [(3,.ptr 1 0),(4,.ptr 2 0),(5,.ptr 3 0),(7,.fn (.func 98) [] [.ptr 3 0]),(39,.imm (t.names.map aa.str)),(40,nI t.names.length),(41,.int .i64 0)] [.map (ae (aa.int .i64) Ty.v m),t.bx,c.bx,.box [.map 0]] ?_ ?_
 refine qB 1 ?_ ?_ ?_
 refine bR (σ:=(Nat×Bd)) (fun ⟨k,q⟩=>[(3,.ptr 1 0),(4,.ptr 2 0),(5,.ptr 3 0),(7,.fn (.func 98) [] [.ptr 3 0]),(39,.imm (t.names.map aa.str)),(40,.int .i64 ((t.names.length:Nat):Int)),(41,.int .i64 ((k:Nat):Int))]) (fun ⟨k,q⟩=>[.map (ae (aa.int .i64) Ty.v q),t.bx,c.bx,.box [.map 0]]) (fun ⟨k,q⟩=>k≤t.names.length∧mTL t.names t.kids c m=mTL (t.names.drop k) (t.kids.drop k) c q∧ro q) (fun ⟨k,q⟩=>t.names.length - k) (0,m) kq (by exact ⟨Nat.zero_le _,rfl,hm⟩) ⟨⟨kq,kq,kq,kq,kq,kq,kq,trivial⟩,by simp [aV,aa.bel],by simp,kq,by simp [ai.belO]⟩ ?_
 rintro ⟨k,q⟩ ⟨hk,hL,hq⟩
 have hix:=Ad c.names (t.names.getD k [])
 have hnk:=((sZ hg).2 oq).1
 have hnc:=((sZ hgc).2 oq).1
 refine qZ [(3,.ptr 1 0),(4,.ptr 2 0),(5,.ptr 3 0),(7,.fn (.func 98) [] [.ptr 3 0]),(39,.imm (t.names.map aa.str)),(40,nI t.names.length),(41,nI k)] [.map (ae (aa.int .i64) Ty.v q),t.bx,c.bx,.box [.map 0]] ?_ ?_
 refine qU 1 [(3,.ptr 1 0),(4,.ptr 2 0),(5,.ptr 3 0),(7,.fn (.func 98) [] [.ptr 3 0]),(39,.imm (t.names.map aa.str)),(40,nI t.names.length),(41,nI k),(42,.bool (decide (((k:Nat):Int)<((t.names.length:Nat):Int))))] ?_ ?_
 refine ar ?_ ?_
 by_cases hb5:((k:Nat):Int)<((t.names.length:Nat):Int)
 refine qt (decide_eq_true hb5) ?_ ?_
 refine qK ?_ ?_
 refine qz [(3,.ptr 1 0),(4,.ptr 2 0),(5,.ptr 3 0),(7,.fn (.func 98) [] [.ptr 3 0]),(39,.imm (t.names.map aa.str)),(40,nI t.names.length),(41,nI k)] ?_ ?_
 refine ar ?_ ?_
 refine qB 2 ?_ ?_ ?_
 refine qV 1 ?_ ?_
 refine qy (ax (k:=.i64) (l:=t.names) (enc:=aa.str) (i:=((k:Nat):Int)) [] kq bi ty9 (fun _=>rfl) oq oq) ?_ ?_ ?_
 refine qR 3 [(3,.ptr 1 0),(4,.ptr 2 0),(5,.ptr 3 0),(7,.fn (.func 98) [] [.ptr 3 0]),(8,nI k),(9,.str (t.names.getD k [])),(39,.imm (t.names.map aa.str)),(40,nI t.names.length),(41,nI k)] [.map (ae (aa.int .i64) Ty.v q),t.bx,c.bx,.box [.map 0]] ?_ ?_
 refine qV 3 ?_ ?_
 refine bp (args:=[.imm (c.names.map aa.str),.str (t.names.getD k [])]) kq kq kq kq (iZ c.names (t.names.getD k []) oq) (by simp [Ty.v,bm,Occ.v]) (by simp [Ty.v]) (by simp [Ty.v,a7]) ?_
 refine qR 1 [(3,.ptr 1 0),(4,.ptr 2 0),(5,.ptr 3 0),(7,.fn (.func 98) [] [.ptr 3 0]),(8,nI k),(10,.int .i64 (aQ c.names (t.names.getD k []))),(39,.imm (t.names.map aa.str)),(40,nI t.names.length),(41,nI k)] [.map (ae (aa.int .i64) Ty.v q),t.bx,c.bx,.box [.map 0]] ?_ ?_
 refine ar ?_ ?_
 refine cK cxM kq aB (bv ?_)
 refine qu 3 ?_ ?_
 by_cases hb6:(aQ c.names (t.names.getD k []))<0
 refine fK 51 (.bool (decide ((aQ c.names (t.names.getD k []))<0))) (.bool true) (fI aB) kq (congrArg aa.bool (decide_eq_true hb6)) ?_
 refine fK 52 (.bool (decide ((aQ c.names (t.names.getD k []))<0))) (.bool true) (fI aB) kq (congrArg aa.bool (decide_eq_true hb6)) ?_
 refine qu 14 ?_ ?_
 refine cn kq ⟨kq,?_⟩
 refine ab ?_
 refine qZ [(3,.ptr 1 0),(4,.ptr 2 0),(5,.ptr 3 0),(7,.fn (.func 98) [] [.ptr 3 0]),(39,.imm (t.names.map aa.str)),(40,nI t.names.length),(41,nI k),(53,.tup []),(54,.tup []),(55,.tup []),(56,.tup []),(57,.tup []),(58,.tup []),(59,.tup []),(60,.tup []),(61,.tup []),(62,.tup []),(63,.tup []),(64,.tup []),(65,.tup []),(66,.bool true)] [.map (ae (aa.int .i64) Ty.v q),t.bx,c.bx,.box [.map 0]] ?_ ?_
 refine cp kq kq ?_
 refine qU 1 [(6,.bool false)] ?_ ?_
 refine bb kq ?_
 apply iR
 apply aR
 apply aR
 apply iR
 apply aR
 apply iR
 apply aR
 refine aL (l:=[.bool false]) (.inr rfl) kq (congrArg aa.bool (congrArg Prod.fst (FM aq (ik aq aq) (hL.trans ((jt oq hnk).trans (if_pos aq))))).symm) iL iL ?_ ?_
 refine Eq.trans (b:=[.map (ae (aa.int .i64) Ty.v q)]) kq ?_
 rotate_left
 · simp [ai.belO,hpV,Ty.v]
 iterate 3 kernel_rfl
 refine fK 51 (.bool (decide ((aQ c.names (t.names.getD k []))<0))) (.bool false) (fI aB) kq (congrArg aa.bool (decide_eq_false hb6)) ?_
 refine fK 52 (.bool (decide ((aQ c.names (t.names.getD k []))<0))) (.bool false) (fI aB) kq (congrArg aa.bool (decide_eq_false hb6)) ?_
 refine qu 3 ?_ ?_
 refine qd ((ax (k:=.i64) (l:=t.kids) (enc:=Ty.enc) (i:=((k:Nat):Int)) Ty.zero kq bf bX bg oq oq).trans (congrArg (fun cs=>some (aa.pimm cs 0,_)) (aO (t.kids.getD k Ty.zero)))) ?_ ?_ ?_ ?_
 refine qu 4 ?_ ?_
 refine qd ((ax (k:=.i64) (l:=c.kids) (enc:=Ty.enc) (i:=(aQ c.names (t.names.getD k []))) Ty.zero kq bf bX bg oq oq).trans (congrArg (fun cs=>some (aa.pimm cs 0,_)) (aO (c.kids.getD (((aQ c.names (t.names.getD k []))).toNat) Ty.zero)))) ?_ ?_ ?_ ?_
 refine qu 2 ?_ ?_
 refine cV (args:=[.agg [.int .i64 ((t.kids.getD k Ty.zero).kind),.str (t.kids.getD k Ty.zero).name,.int .i64 ((t.kids.getD k Ty.zero).n),.imm ((t.kids.getD k Ty.zero).names.map aa.str),.imm ((t.kids.getD k Ty.zero).kids.map Ty.enc)],.agg [.int .i64 ((c.kids.getD (((aQ c.names (t.names.getD k []))).toNat) Ty.zero).kind),.str (c.kids.getD (((aQ c.names (t.names.getD k []))).toNat) Ty.zero).name,.int .i64 ((c.kids.getD (((aQ c.names (t.names.getD k []))).toNat) Ty.zero).n),.imm ((c.kids.getD (((aQ c.names (t.names.getD k []))).toNat) Ty.zero).names.map aa.str),.imm ((c.kids.getD (((aQ c.names (t.names.getD k []))).toNat) Ty.zero).kids.map Ty.enc)],.map 0]) (hs:=[.map (ae (aa.int .i64) Ty.v q)]) (hs':=[.map (ae (aa.int .i64) Ty.v (mT (t.kids.getD k Ty.zero) (c.kids.getD (((aQ c.names (t.names.getD k []))).toNat) Ty.zero) q).2)]) (aM:=[t.bx,c.bx,.box [.map 0]]) (L:=[0]) kq kq kq kq kq kq (ihM (t.kids.getD k Ty.zero) (c.kids.getD (((aQ c.names (t.names.getD k []))).toNat) Ty.zero) q (b9 t _ oq) (Nat.lt_trans (b9 c _ oq) hsc) (pd hg _ oq) (pd hgc _ oq) hq) kQ kQ rfl kQ kQ kq rfl rfl ?_
 refine qu 2 ?_ ?_
 refine cn kq ⟨kq,?_⟩
 refine ab ?_
 refine qZ [(3,.ptr 1 0),(4,.ptr 2 0),(5,.ptr 3 0),(7,.fn (.func 98) [] [.ptr 3 0]),(39,.imm (t.names.map aa.str)),(40,nI t.names.length),(41,nI k),(53,.ptr 1 4),(54,.imm (t.kids.map Ty.enc)),(55,nI k),(56,.pimm [.int .i64 ((t.kids.getD k Ty.zero).kind),.str (t.kids.getD k Ty.zero).name,.int .i64 ((t.kids.getD k Ty.zero).n),.imm ((t.kids.getD k Ty.zero).names.map aa.str),.imm ((t.kids.getD k Ty.zero).kids.map Ty.enc)] 0),(57,.agg [.int .i64 ((t.kids.getD k Ty.zero).kind),.str (t.kids.getD k Ty.zero).name,.int .i64 ((t.kids.getD k Ty.zero).n),.imm ((t.kids.getD k Ty.zero).names.map aa.str),.imm ((t.kids.getD k Ty.zero).kids.map Ty.enc)]),(58,.ptr 2 4),(59,.imm (c.kids.map Ty.enc)),(60,.int .i64 (aQ c.names (t.names.getD k []))),(61,.pimm [.int .i64 ((c.kids.getD (((aQ c.names (t.names.getD k []))).toNat) Ty.zero).kind),.str (c.kids.getD (((aQ c.names (t.names.getD k []))).toNat) Ty.zero).name,.int .i64 ((c.kids.getD (((aQ c.names (t.names.getD k []))).toNat) Ty.zero).n),.imm ((c.kids.getD (((aQ c.names (t.names.getD k []))).toNat) Ty.zero).names.map aa.str),.imm ((c.kids.getD (((aQ c.names (t.names.getD k []))).toNat) Ty.zero).kids.map Ty.enc)] 0),(62,.agg [.int .i64 ((c.kids.getD (((aQ c.names (t.names.getD k []))).toNat) Ty.zero).kind),.str (c.kids.getD (((aQ c.names (t.names.getD k []))).toNat) Ty.zero).name,.int .i64 ((c.kids.getD (((aQ c.names (t.names.getD k []))).toNat) Ty.zero).n),.imm ((c.kids.getD (((aQ c.names (t.names.getD k []))).toNat) Ty.zero).names.map aa.str),.imm ((c.kids.getD (((aQ c.names (t.names.getD k []))).toNat) Ty.zero).kids.map Ty.enc)]),(63,.map 0),(64,.bool ((mT (t.kids.getD k Ty.zero) (c.kids.getD (((aQ c.names (t.names.getD k []))).toNat) Ty.zero) q).1)),(65,.bool (!((mT (t.kids.getD k Ty.zero) (c.kids.getD (((aQ c.names (t.names.getD k []))).toNat) Ty.zero) q).1))),(66,.bool (!((mT (t.kids.getD k Ty.zero) (c.kids.getD (((aQ c.names (t.names.getD k []))).toNat) Ty.zero) q).1)))] [.map (ae (aa.int .i64) Ty.v (mT (t.kids.getD k Ty.zero) (c.kids.getD (((aQ c.names (t.names.getD k []))).toNat) Ty.zero) q).2),t.bx,c.bx,.box [.map 0]] ?_ ?_
 by_cases hb7:((mT (t.kids.getD k Ty.zero) (c.kids.getD (((aQ c.names (t.names.getD k []))).toNat) Ty.zero) q).1)=true
 refine qf (x:=(!((mT (t.kids.getD k Ty.zero) (c.kids.getD (((aQ c.names (t.names.getD k []))).toNat) Ty.zero) q).1))) (congrArg not (hb7)) ?_ ?_
 refine qk ?_ ?_
 refine ak ?_
 refine ab ?_
 refine qz [(3,.ptr 1 0),(4,.ptr 2 0),(5,.ptr 3 0),(7,.fn (.func 98) [] [.ptr 3 0]),(39,.imm (t.names.map aa.str)),(40,nI t.names.length),(41,nI k),(53,.ptr 1 4),(54,.imm (t.kids.map Ty.enc)),(55,nI k),(56,.pimm [.int .i64 ((t.kids.getD k Ty.zero).kind),.str (t.kids.getD k Ty.zero).name,.int .i64 ((t.kids.getD k Ty.zero).n),.imm ((t.kids.getD k Ty.zero).names.map aa.str),.imm ((t.kids.getD k Ty.zero).kids.map Ty.enc)] 0),(57,.agg [.int .i64 ((t.kids.getD k Ty.zero).kind),.str (t.kids.getD k Ty.zero).name,.int .i64 ((t.kids.getD k Ty.zero).n),.imm ((t.kids.getD k Ty.zero).names.map aa.str),.imm ((t.kids.getD k Ty.zero).kids.map Ty.enc)]),(58,.ptr 2 4),(59,.imm (c.kids.map Ty.enc)),(60,.int .i64 (aQ c.names (t.names.getD k []))),(61,.pimm [.int .i64 ((c.kids.getD (((aQ c.names (t.names.getD k []))).toNat) Ty.zero).kind),.str (c.kids.getD (((aQ c.names (t.names.getD k []))).toNat) Ty.zero).name,.int .i64 ((c.kids.getD (((aQ c.names (t.names.getD k []))).toNat) Ty.zero).n),.imm ((c.kids.getD (((aQ c.names (t.names.getD k []))).toNat) Ty.zero).names.map aa.str),.imm ((c.kids.getD (((aQ c.names (t.names.getD k []))).toNat) Ty.zero).kids.map Ty.enc)] 0),(62,.agg [.int .i64 ((c.kids.getD (((aQ c.names (t.names.getD k []))).toNat) Ty.zero).kind),.str (c.kids.getD (((aQ c.names (t.names.getD k []))).toNat) Ty.zero).name,.int .i64 ((c.kids.getD (((aQ c.names (t.names.getD k []))).toNat) Ty.zero).n),.imm ((c.kids.getD (((aQ c.names (t.names.getD k []))).toNat) Ty.zero).names.map aa.str),.imm ((c.kids.getD (((aQ c.names (t.names.getD k []))).toNat) Ty.zero).kids.map Ty.enc)]),(63,.map 0),(64,.bool ((mT (t.kids.getD k Ty.zero) (c.kids.getD (((aQ c.names (t.names.getD k []))).toNat) Ty.zero) q).1)),(65,.bool (!((mT (t.kids.getD k Ty.zero) (c.kids.getD (((aQ c.names (t.names.getD k []))).toNat) Ty.zero) q).1)))] ?_ ?_
 refine qo ?_ ?_
 refine qy (aN (a:=((k:Nat):Int)) (b:=1) kq oq oq) ?_ ?_ ?_
 refine qr 1 ?_ ?_
 refine qe ?_ ?_
 refine ab ⟨(k+1,(mT (t.kids.getD k Ty.zero) (c.kids.getD (aQ c.names (t.names.getD k [])).toNat Ty.zero) q).2),?_,?_,⟨⟨kq,kq,kq,kq,kq,kq,kq,trivial⟩,by simp [aV,aa.bel],by simp,kq,by simp [ai.belO]⟩⟩
 · try dsimp only
   omega
 · try dsimp only
   refine ⟨by omega,?_,?_⟩
   · rw [hL,jt oq hnk,if_neg aq,if_pos aq]
   · exact AS _ _ _ (pd hgc _ oq) (Nat.lt_trans (b9 c _ oq) hsc) hq
 iterate 8 kernel_rfl
 refine qt (x:=(!((mT (t.kids.getD k Ty.zero) (c.kids.getD (((aQ c.names (t.names.getD k []))).toNat) Ty.zero) q).1))) (congrArg not (Bool.eq_false_iff.2 hb7)) ?_ ?_
 refine qU 1 [(6,.bool false)] ?_ ?_
 refine bb kq ?_
 apply iR
 apply aR
 apply aR
 apply iR
 apply aR
 apply iR
 apply aR
 refine aL (l:=[.bool false]) (.inr rfl) kq (congrArg aa.bool (congrArg Prod.fst (FM aq (ik aq aq) (hL.trans ((jt oq hnk).trans ((if_neg aq).trans (if_neg aq)))))).symm) iL iL ?_ ?_
 refine Eq.trans (b:=[.map (ae (aa.int .i64) Ty.v (mT (t.kids.getD k Ty.zero) (c.kids.getD (((aQ c.names (t.names.getD k []))).toNat) Ty.zero) q).2)]) kq ?_
 rotate_left
 · simp [ai.belO,hpV,Ty.v]
 iterate 27 kernel_rfl
 refine qf (decide_eq_false hb5) ?_ ?_
 refine bC 1 kq kq ?_
 refine af ?_
 refine af ?_
 refine aA ?_
 refine ab ?_
 refine qz [(3,.ptr 1 0),(4,.ptr 2 0),(7,.fn (.func 98) [] [.ptr 3 0])] ?_ ?_
 refine ar ?_ ?_
 refine qU 3 [(3,.ptr 1 0),(4,.ptr 2 0),(7,.fn (.func 98) [] [.ptr 3 0]),(70,.bool ((t.n) != 0))] ?_ ?_
 by_cases hb8:(t.n)=0
 refine qf (x:=((t.n) != 0)) (bne_eq_false_iff_eq.2 hb8) ?_ ?_
 refine qK ?_ ?_
 refine qz [(3,.ptr 1 0),(4,.ptr 2 0)] ?_ ?_
 refine qV 4 ?_ ?_
 by_cases hb9:(c.n)=0
 refine qm [82,83] (beq_iff_eq.2 hb9) ?_ ?_
 refine qr 2 ?_ ?_
 refine qy (au (l:=t.names) (enc:=aa.str) kq bi) ?_ ?_ ?_
 refine qr 2 ?_ ?_
 refine qy (au (l:=c.names) (enc:=aa.str) kq bi) ?_ ?_ ?_
 refine qR 3 [(6,.bool (((t.names.length:Nat):Int)==((c.names.length:Nat):Int)))] [.map (ae (aa.int .i64) Ty.v q),t.bx,c.bx,.box [.map 0]] ?_ ?_
 refine bb kq ?_
 apply iR
 apply aR
 refine aL (l:=[.bool (((t.names.length:Nat):Int)==((c.names.length:Nat):Int))]) (.inr rfl) kq (by rw [Hc aq (ik aq aq) (hL.trans (mu oq)) aq];simp [aK, *];rw [Bool.eq_iff_iff,beq_iff_eq,decide_eq_true_eq];omega) iL iL ?_ ?_
 refine Eq.trans (b:=[.map (ae (aa.int .i64) Ty.v q)]) kq ?_
 rotate_left
 · simp [ai.belO,hpV,Ty.v]
 iterate 8 kernel_rfl
 refine qm [82,83] (beq_eq_false_iff_ne.2 hb9) ?_ ?_
 refine qR 9 [(6,.bool false)] [.map (ae (aa.int .i64) Ty.v q),t.bx,c.bx,.box [.map 0]] ?_ ?_
 refine bb kq ?_
 apply iR
 apply aR
 refine aL (l:=[.bool false]) (.inr rfl) kq (by rw [Hc aq (ik aq aq) (hL.trans (mu oq)) aq];simp [aK, *]) iL iL ?_ ?_
 refine Eq.trans (b:=[.map (ae (aa.int .i64) Ty.v q)]) kq ?_
 rotate_left
 · simp [ai.belO,hpV,Ty.v]
 iterate 6 kernel_rfl
 refine qt (x:=((t.n) != 0)) (bne_iff_ne.2 hb8) ?_ ?_
 refine ar ?_ ?_
 refine cK cxM kq aB (bv ?_)
 refine qu 7 ?_ ?_
 refine cB (args:=[.agg [.int .i64 (c.kind),.str c.name,.int .i64 (c.n),.imm (c.names.map aa.str),.imm (c.kids.map Ty.enc)],.agg [.int .i64 (t.kind),.str t.name,.int .i64 (t.n),.imm (t.names.map aa.str),.imm (t.kids.map Ty.enc)],.int .i64 (c.n)]) kq kq kq kq kq (nf c t (c.n) oq oq oq) (by intro _;simp [Ty.v,bm,Occ.v]) (by simp [Ty.v]) (by simp [Ty.v,a7]) ?_
 refine cV (args:=[.int .i64 (t.n),Ty.v (recT (onL c t c.names.length) (c.n)),.ptr 3 0]) (hs:=[.map (ae (aa.int .i64) Ty.v q),t.bx,c.bx,.box [.map 0]]) (hs':=[.map (ae (aa.int .i64) Ty.v (aJ (t.n) (recT (onL c t c.names.length) (c.n)) q)),t.bx,c.bx,.box [.map 0]]) (aM:=[]) (L:=[0,1,2,3]) kq kq kq kq kq kq (sk (t.n) (recT (onL c t c.names.length) (c.n)) t c q (G3 hgc oq hsc) hq) kQ kQ rfl kQ kQ kq rfl rfl ?_
 refine qu 1 ?_ ?_
 refine cn kq ⟨kq,?_⟩
 refine ab ?_
 refine qZ [(6,.bool (mI q (t.n) (recT (onL c t c.names.length) (c.n))))] [.map (ae (aa.int .i64) Ty.v (aJ (t.n) (recT (onL c t c.names.length) (c.n)) q)),t.bx,c.bx,.box [.map 0]] ?_ ?_
 refine bb kq ?_
 apply aR
 apply iR
 apply aR
 refine aL (l:=[.bool (mI q (t.n) (recT (onL c t c.names.length) (c.n)))]) (.inr rfl) kq (congrArg aa.bool (congrArg Prod.fst (I1 aq (ik aq aq) (hL.trans (mu oq)) aq)).symm) iL iL ?_ ?_
 refine Eq.trans (b:=[.map (ae (aa.int .i64) Ty.v (aJ (t.n) (recT (onL c t c.names.length) (c.n)) q))]) kq ?_
 rotate_left
 · simp [ai.belO,hpV,Ty.v]
 iterate 20 kernel_rfl
 refine qf (beq_eq_false_iff_ne.2 hb4) ?_ ?_
 refine qk ?_ ?_
 refine ak ?_
 refine ab ?_
 refine qz [(3,.ptr 1 0),(4,.ptr 2 0),(5,.ptr 3 0)] ?_ ?_
 refine ar ?_ ?_
 refine cK cxM kq aB (bv ?_)
 refine qu 4 ?_ ?_
 by_cases hb10:(t.kind)=4
 refine fK 94 (.bool ((t.kind) != 4)) (.bool false) (fI aB) kq (congrArg aa.bool (bne_eq_false_iff_eq.2 hb10)) ?_
 refine fK 95 (.bool ((t.kind) != 4)) (.bool false) (fI aB) kq (congrArg aa.bool (bne_eq_false_iff_eq.2 hb10)) ?_
 refine qu 2 ?_ ?_
 refine qd ((ax (k:=.i64) (l:=t.kids) (enc:=Ty.enc) (i:=0) Ty.zero kq bf bX bg oq oq).trans (congrArg (fun cs=>some (aa.pimm cs 0,_)) (aO (t.kids.getD 0 Ty.zero)))) ?_ ?_ ?_ ?_
 refine qu 3 ?_ ?_
 refine qd ((ax (k:=.i64) (l:=c.kids) (enc:=Ty.enc) (i:=0) Ty.zero kq bf bX bg oq oq).trans (congrArg (fun cs=>some (aa.pimm cs 0,_)) (aO (c.kids.getD 0 Ty.zero)))) ?_ ?_ ?_ ?_
 refine qu 2 ?_ ?_
 refine cV (args:=[.agg [.int .i64 ((t.kids.getD 0 Ty.zero).kind),.str (t.kids.getD 0 Ty.zero).name,.int .i64 ((t.kids.getD 0 Ty.zero).n),.imm ((t.kids.getD 0 Ty.zero).names.map aa.str),.imm ((t.kids.getD 0 Ty.zero).kids.map Ty.enc)],.agg [.int .i64 ((c.kids.getD 0 Ty.zero).kind),.str (c.kids.getD 0 Ty.zero).name,.int .i64 ((c.kids.getD 0 Ty.zero).n),.imm ((c.kids.getD 0 Ty.zero).names.map aa.str),.imm ((c.kids.getD 0 Ty.zero).kids.map Ty.enc)],.map 0]) (hs:=[.map (ae (aa.int .i64) Ty.v m)]) (hs':=[.map (ae (aa.int .i64) Ty.v (mT (t.kids.getD 0 Ty.zero) (c.kids.getD 0 Ty.zero) m).2)]) (aM:=[t.bx,c.bx,.box [.map 0]]) (L:=[0]) kq kq kq kq kq kq (ihM (t.kids.getD 0 Ty.zero) (c.kids.getD 0 Ty.zero) m (b9 t _ oq) (Nat.lt_trans (b9 c _ oq) hsc) (pd hg _ oq) (pd hgc _ oq) hm) kQ kQ rfl kQ kQ kq rfl rfl ?_
 refine qu 2 ?_ ?_
 refine cn kq ⟨kq,?_⟩
 refine ab ?_
 refine qZ [(6,.bool ((mT (t.kids.getD 0 Ty.zero) (c.kids.getD 0 Ty.zero) m).1))] [.map (ae (aa.int .i64) Ty.v (mT (t.kids.getD 0 Ty.zero) (c.kids.getD 0 Ty.zero) m).2),t.bx,c.bx,.box [.map 0]] ?_ ?_
 refine bb kq ?_
 refine aL (l:=[.bool ((mT (t.kids.getD 0 Ty.zero) (c.kids.getD 0 Ty.zero) m).1)]) (.inr rfl) kq (congrArg aa.bool (congrArg Prod.fst (Hq aq (ik aq aq) oq)).symm) iL iL ?_ ?_
 refine Eq.trans (b:=[.map (ae (aa.int .i64) Ty.v (mT (t.kids.getD 0 Ty.zero) (c.kids.getD 0 Ty.zero) m).2)]) kq ?_
 rotate_left
 · simp [ai.belO,hpV,Ty.v]
 iterate 11 kernel_rfl
 refine fK 94 (.bool ((t.kind) != 4)) (.bool true) (fI aB) kq (congrArg aa.bool (bne_iff_ne.2 hb10)) ?_
 refine fK 95 (.bool ((t.kind) != 4)) (.bool true) (fI aB) kq (congrArg aa.bool (bne_iff_ne.2 hb10)) ?_
 refine qu 12 ?_ ?_
 refine cn kq ⟨kq,?_⟩
 refine ab ?_
 refine qZ [(6,.bool true)] [.map (ae (aa.int .i64) Ty.v m),t.bx,c.bx,.box [.map 0]] ?_ ?_
 refine bb kq ?_
 refine aL (l:=[.bool true]) (.inr rfl) kq (congrArg aa.bool (congrArg Prod.fst (Hx aq (ik aq aq) aq aq)).symm) iL iL ?_ ?_
 refine Eq.trans (b:=[.map (ae (aa.int .i64) Ty.v m)]) kq ?_
 rotate_left
 · simp [ai.belO,hpV,Ty.v]
 iterate 9 kernel_rfl
 refine qt (x:=(!(t.name==c.name))) (congrArg not (beq_eq_false_iff_ne.2 hb3)) ?_ ?_
 refine qU 1 [(6,.bool false)] ?_ ?_
 refine bb kq ?_
 apply iR
 apply aR
 refine aL (l:=[.bool false]) (.inr rfl) kq (congrArg aa.bool (congrArg Prod.fst (Ae aq (.inr aq))).symm) iL iL ?_ ?_
 refine Eq.trans (b:=[.map (ae (aa.int .i64) Ty.v m)]) kq ?_
 rotate_left
 · simp [ai.belO,hpV,Ty.v]
 iterate 4 kernel_rfl
 refine qm [26,27] (x:=((t.kind) != (c.kind))) (bne_iff_ne.2 hb2) ?_ ?_
 refine qR 7 [(3,.ptr 1 0),(4,.ptr 2 0),(5,.ptr 3 0),(7,.fn (.func 98) [] [.ptr 3 0]),(21,.bool true)] [.map (ae (aa.int .i64) Ty.v m),t.bx,c.bx,.box [.map 0]] ?_ ?_
 refine cp kq kq ?_
 refine qU 1 [(6,.bool false)] ?_ ?_
 refine bb kq ?_
 apply iR
 apply aR
 refine aL (l:=[.bool false]) (.inr rfl) kq (congrArg aa.bool (congrArg Prod.fst (Ae aq (.inl aq))).symm) iL iL ?_ ?_
 refine Eq.trans (b:=[.map (ae (aa.int .i64) Ty.v m)]) kq ?_
 rotate_left
 · simp [ai.belO,hpV,Ty.v]
 iterate 12 kernel_rfl
 all_goals
  refine congrArg (fun z=>[ai.map (ae (aa.int .i64) Ty.v z)]) ?_
  first|exact (congrArg Prod.snd (He aq)).symm|exact (congrArg Prod.snd (Ae aq (.inl aq))).symm|exact (congrArg Prod.snd (Ae aq (.inr aq))).symm|exact (congrArg Prod.snd (FM aq (ik aq aq) (hL.trans ((jt oq hnk).trans (if_pos aq))))).symm|exact (congrArg Prod.snd (FM aq (ik aq aq) (hL.trans ((jt oq hnk).trans ((if_neg aq).trans (if_neg aq)))))).symm|exact (congrArg Prod.snd (I1 aq (ik aq aq) (hL.trans (mu oq)) aq)).symm|exact (congrArg Prod.snd (Hq aq (ik aq aq) oq)).symm|exact (congrArg Prod.snd (Hx aq (ik aq aq) aq aq)).symm|exact (congrArg Prod.snd (Hc aq (ik aq aq) (hL.trans (mu oq)) aq)).symm
def okO (t:Ty):Prop:=¬ t.kind=5→¬ t.kind=6→t.n=0∧t.names=[]
mutual
def gn:Ty→Prop
 | .mk k x n l ks=>okO (.mk k x n l ks)∧gnL ks
def gnL:List Ty→Prop
 | []=>True
 | t::l=>gn t∧gnL l
end
theorem Ek {l:List (List UInt8)} (h:∀ i,i+1<l.length→l.getD i []<l.getD (i+1) []):l.Pairwise (fun a b=>a<b):=by
 induction l with
 | nil=>exact .nil
 | cons x l ih =>
  have hl:l.Pairwise (fun a b=>a<b):=ih fun i hi=>by have:=h (i+1) (by simp;omega);simpa only [List.getD_cons_succ] using this
  refine List.pairwise_cons.2 ⟨fun y hy=>?_,hl⟩
  cases l with
  | nil=>simp at hy
  | cons z l =>
   have hz:x<z:=by have:=h 0 zq;simpa using this
   simp only [List.mem_cons] at hy
   rcases hy with rfl|hy
   · exact hz
   · exact List.lt_trans hz ((List.pairwise_cons.1 hl).1 y hy)
theorem Il {l:List (List UInt8)} (h:oI l=true):l.Pairwise (fun a b=>a<b):=by
 refine Ek fun i hi=>?_
 have:=List.all_eq_true.1 h (i+1) (List.mem_range.2 hi)
 simp only [lJ,Bool.and_eq_true,Bool.or_eq_true,mD,decide_eq_true_eq,beq_iff_eq,Nat.add_sub_cancel] at this
 rcases this.2 with h0|h0
 · omega
 · exact h0
theorem ux {t:Ty} (h:fmd t=true):okN t∧okO t:=by
 unfold fmd at h
 unfold okN okO
 split at h
 · rename_i hk
   have h':=of_decide_eq_true h
   refine ⟨⟨fun h4=>by omega,fun h5=>by omega⟩,fun _ _=>⟨h'.2.1,List.eq_nil_of_length_eq_zero h'.2.2.1⟩⟩
 · split at h
   · have h':=of_decide_eq_true h
     refine ⟨⟨fun h4=>by omega,fun h5=>by omega⟩,fun _ _=>⟨h'.1,List.eq_nil_of_length_eq_zero h'.2.1⟩⟩
   · split at h
     · have h':=of_decide_eq_true h
       refine ⟨⟨fun _=>h'.2.2.2,fun h5=>by omega⟩,fun _ _=>⟨h'.2.1,List.eq_nil_of_length_eq_zero h'.2.2.1⟩⟩
     · split at h
       · refine ⟨⟨fun h4=>by omega,fun h5=>by omega⟩,fun _ h6=>by omega⟩
       · split at h
         · have h':=of_decide_eq_true h
           refine ⟨⟨fun h4=>by omega,fun _=>⟨h'.2.2.2,Il h'.1⟩⟩,fun h5 _=>by omega⟩
         · simp at h
theorem A2 {s:VSt} {t:Ty} (h:(bk s t).ok=true):s.ok=true∧fmd t=true:=by
 unfold bk at h
 split at h
 · simpa using h
 · split at h
   · simp only [Bool.and_eq_true] at h;exact h.1
   · simpa using h
mutual
theorem Dq:∀ (t:Ty) (s:VSt),(bA s t).ok=true→s.ok=true∧gd t∧gn t
 | .mk k x n l ks,s,h=>by
  rw [bA] at h
  simp only [gd,gn]
  split at h
  · have h1:=A2 h
    have h2:=uM ks s h1.1
    exact ⟨h2.1,⟨(ux h1.2).1,h2.2.1⟩,(ux h1.2).2,h2.2.2⟩
  · have h2:=uM ks _ h
    have h1:=A2 h2.1
    exact ⟨h1.1,⟨(ux h1.2).1,h2.2.1⟩,(ux h1.2).2,h2.2.2⟩
theorem uM:∀ (l:List Ty) (s:VSt),(aU s l).ok=true→s.ok=true∧gdL l∧gnL l
 | [],s,h=>by simp only [aU] at h;exact ⟨h,by simp [gdL],by simp [gnL]⟩
 | t::l,s,h=>by
  rw [aU] at h
  have h2:=uM l _ h
  have h1:=Dq t s h2.1
  simp only [gdL,gnL]
  exact ⟨h1.1,⟨h1.2.1,h2.2.1⟩,h1.2.2,h2.2.2⟩
end
theorem v8 {t:Ty} (h:cO t=true):gd t∧gn t:=by
 unfold cO okL at h
 rw [Bool.and_eq_true] at h
 exact (Dq t _ h.1).2
def rl (a b:Ty):Bool:=cO a && cO b && (mT a b []).1
theorem CY:ro []:=fun k t h=>by simp [am] at h
theorem D3 (t c:Ty) (hs:t.sz<100000000) (hsc:c.sz<100000000) (h1:cO t=true) (h2:cO c=true):av cx 62 [Ty.v t,Ty.v c,.map 2] [t.bx,c.bx,.map (ae (aa.int .i64) Ty.v ([]:Bd))] (fun v h=>v=.bool (mT t c []).1∧h=[t.bx,c.bx,.map (ae (aa.int .i64) Ty.v (mT t c []).2)]):=by
 have hid:ix (bc [2] 3) (ae (aa.int .i64) Ty.v (mT t c []).2)=ae (aa.int .i64) Ty.v (mT t c []).2:=iU (k:=0) (fun i hi=>by omega) _ (Ff 0 _)
 refine ca [2] (yR t c [] hs hsc (v8 h1).1 (v8 h2).1 CY) rfl dq (by simp [Ty.v]) (by simp [ai.belO]) (by simp [dB,ai.ren,ix,ae]) rfl (by simp [bV,aa.ren,bc,Ty.v]) rfl ?_
 simp [dv,cy,dB,ai.ren,hid]
noncomputable def c19:Code:=aE Tryz.f19
theorem tO (t c:Ty) (hs:t.sz<100000000) (hsc:c.sz<100000000):ay cx 19 [Ty.v t,Ty.v c] (.bool (rl t c)):=by
 refine ap (cx:=cx) 17 0 [(ResultVar.tmp 4)] Tryz.func19 rfl rfl rfl rfl rfl zq ?_
 show wpA cx 17 0 (at_ c19 []) _ _ _
 refine qZ [(0,Ty.v t),(1,Ty.v c)] [] ?_ ?_
 refine qW 3 [(2,.ptr 0 0),(3,.ptr 1 0)] [t.bx,c.bx] ?_ ?_
 refine qV 1 ?_ ?_
 refine bp (args:=[.agg [.int .i64 (t.kind),.str t.name,.int .i64 (t.n),.imm (t.names.map aa.str),.imm (t.kids.map Ty.enc)]]) kq kq kq kq (jW t oq) (by simp [Ty.v,bm,Occ.v]) (by simp [Ty.v]) (by simp [Ty.v,a7]) ?_
 refine qr 1 ?_ ?_
 by_cases hb1:(cO t)=true
 refine qm [6,7] (hb1) ?_ ?_
 refine qr 1 ?_ ?_
 refine bp (args:=[.agg [.int .i64 (c.kind),.str c.name,.int .i64 (c.n),.imm (c.names.map aa.str),.imm (c.kids.map Ty.enc)]]) kq kq kq kq (jW c oq) (by simp [Ty.v,bm,Occ.v]) (by simp [Ty.v]) (by simp [Ty.v,a7]) ?_
 refine qr 2 ?_ ?_
 by_cases hb2:(cO c)=true
 refine qm [9,10,11] (hb2) ?_ ?_
 refine qr 3 ?_ ?_
 refine cM (args:=[.agg [.int .i64 (t.kind),.str t.name,.int .i64 (t.n),.imm (t.names.map aa.str),.imm (t.kids.map Ty.enc)],.agg [.int .i64 (c.kind),.str c.name,.int .i64 (c.n),.imm (c.names.map aa.str),.imm (c.kids.map Ty.enc)],.map 2]) (v:=.bool ((mT t c []).1)) (h':=[t.bx,c.bx,.map (ae (aa.int .i64) Ty.v (mT t c []).2)]) [t.bx,c.bx,.map (ae (aa.int .i64) Ty.v ([]:List (Int×Ty)))] kq kq kq kq kq (D3 t c hs hsc aq aq) ?_
 refine qX 2 ?_ ?_
 refine aH (b:=((mT t c []).1)) (.inr rfl) kq ?_
 · simp [rl, *]
 iterate 3 kernel_rfl
 refine qm [9,10,11] (Bool.eq_false_iff.2 hb2) ?_ ?_
 refine qX 6 ?_ ?_
 refine aH (b:=false) (.inr rfl) kq ?_
 · simp [rl, *]
 iterate 5 kernel_rfl
 refine qm [6,7] (Bool.eq_false_iff.2 hb1) ?_ ?_
 refine qX 10 ?_ ?_
 refine aH (b:=false) (.inr rfl) kq ?_
 · simp [rl, *]
 iterate 6 kernel_rfl
noncomputable def c4:Code:=aE Tryz.f4
end Go.Proofs.YtdikgijfekfaoaaGreatDoor
