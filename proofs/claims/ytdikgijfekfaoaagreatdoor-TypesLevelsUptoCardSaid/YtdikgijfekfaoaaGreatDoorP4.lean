/- A part of the proof: plain lemmas, rules and walks. No condition. -/
import Derived.Test.YtdikgijfekfaoaaGreatDoorP3
import Derived.Sort.Walk0
import Derived.Test.YtdikgijfekfaoaaGreatDoorRows
import Derived.Lay
set_option linter.all false
namespace Go.Proofs.YtdikgijfekfaoaaGreatDoor
open Go.Proofs.YtdikgijfekfaoaaGreatDoor.Abs
set_option maxRecDepth 20000
set_option maxHeartbeats 4000000
def nx (l:List (List UInt8)) (i:Nat):Bool:=cz 2 (l.getD i []) && (i==0 || aY (l.getD (i - 1) []) (l.getD i []))
def pC (l:List (List UInt8)):Bool:=(List.range l.length).all (nx l)
theorem tl {l:List (List UInt8)} (h:∀ i,i<l.length→nx l i=true):pC l=true:=by
 unfold pC;rw [List.all_eq_true];intro i hi;exact h i (List.mem_range.1 hi)
theorem lL {l:List (List UInt8)} {i:Nat} (hi:i<l.length) (h:nx l i=false):pC l=false:=by
 rw [Bool.eq_false_iff];intro hc;unfold pC at hc;rw [List.all_eq_true] at hc
 rw [hc i (List.mem_range.2 hi)] at h;cases h
def fmd (t:Ty):Bool :=
 if t.kind=0∨t.kind=1∨t.kind=2 then decide (t.name=[]∧t.n=0∧t.names.length=0∧t.kids.length=0)
 else if t.kind=3 then decide (t.n=0∧t.names.length=0∧t.kids.length=0∧upN t.name=true)
 else if t.kind=4 then decide (t.name=[]∧t.n=0∧t.names.length=0∧t.kids.length=1)
 else if t.kind=6 then decide (t.name=[]∧1≤t.n∧t.names.length=0∧t.kids.length=0)
 else if t.kind=5 then decide (pC t.names=true∧t.name=[]∧0≤t.n∧t.names.length=t.kids.length)
 else false
def cG (l:List (List UInt8)) (s:List UInt8):Int:=match l.findIdx? (·==s) with
 | some i=>(i:Nat)
 | none=>-1
theorem BO {l:List (List UInt8)} {s:List UInt8} {k:Nat} (hk:k<l.length) (ha:∀ i,i<k→¬ s=l.getD i []) (h:s=l.getD k []):((k:Nat):Int)=cG l s:=by
 have e:∀ i (h:i<l.length),l.getD i []=l[i]:=fun i h=>by rw [List.getD_eq_getElem?_getD,List.getElem?_eq_getElem h];rfl
 have:l.findIdx? (·==s)=some k:=by
  rw [List.findIdx?_eq_some_iff_getElem]
  refine ⟨hk,by rw [← e k hk,← h];simp,fun j hj=>?_⟩
  have:=ha j hj
  rw [e j oq] at this
  simpa using fun h=>this h.symm
 simp [cG,this]
theorem Cf {l:List (List UInt8)} {s:List UInt8} (ha:∀ i,i<l.length→¬ s=l.getD i []):-1=cG l s:=by
 have:l.findIdx? (·==s)=none:=by
  rw [List.findIdx?_eq_none_iff]
  intro x hx
  obtain ⟨i,hi,rfl⟩:=List.getElem_of_mem hx
  have:=ha i hi
  rw [List.getD_eq_getElem?_getD,List.getElem?_eq_getElem hi] at this
  simpa using fun h:l[i]=s=>this h.symm
 simp [cG,this]
theorem lB (l:List (List UInt8)) (s:List UInt8):decide (cG l s ≥ 0)=l.contains s:=by
 rw [Bool.eq_iff_iff]
 simp only [decide_eq_true_eq,List.contains_iff_mem]
 unfold cG
 split
 · rename_i i hi
   obtain ⟨h1,h2,_⟩:=List.findIdx?_eq_some_iff_getElem.1 hi
   simp at h2
   exact ⟨fun _=>h2▸List.getElem_mem h1,fun _=>by omega⟩
 · rename_i hi
   rw [List.findIdx?_eq_none_iff] at hi
   exact ⟨fun h=>by omega,fun h=>by have:=hi s h;simp at this⟩
noncomputable def c99:Code:=aB Tryz.f99
theorem me (l:List (List UInt8)) (s:List UInt8) (hn:l.length<1000000000):aC cx 99 [.imm (l.map aa.str),.str s] (.int .i64 (cG l s)):=by
 refine am (cx:=cx) 19 0 [(ResultVar.tmp 4)] Tryz.func99 rfl rfl rfl rfl rfl zq ?_
 show wpA cx 19 0 (at_ c99 []) _ _ _
 apply qZ [(0,.imm (l.map aa.str)),(1,.str s)] []
 apply qU 1 [(0,.imm (l.map aa.str)),(1,.str s)]
 apply ao
 apply qV 1
 refine qy (au (l:=l) (enc:=aa.str) kq bi) ?_ ?_ ?_
 apply qR 1 [(0,.imm (l.map aa.str)),(1,.str s),(7,nI l.length),(8,.int .i64 0)] []
 apply qB 0
 refine bB (σ:=Nat) (fun k=>[(0,.imm (l.map aa.str)),(1,.str s),(7,.int .i64 ((l.length:Nat):Int)),(8,.int .i64 ((k:Nat):Int))]) (fun k=>[]) (fun k=>k≤l.length∧∀ i,i<k→¬ s=l.getD i []) (fun k=>l.length - k) 0 kq zq ⟨⟨kq,kq,kq,kq,trivial⟩,by simp [aQ,aa.bel],by simp,kq,by simp⟩ ?_
 rintro k ⟨hk,ha⟩
 apply qW 1 [(0,.imm (l.map aa.str)),(1,.str s),(7,nI l.length),(8,nI k),(9,.bool (decide (((k:Nat):Int)<((l.length:Nat):Int))))] []
 apply ao
 by_cases hb1:((k:Nat):Int)<((l.length:Nat):Int)
 apply qt (decide_eq_true hb1)
 apply qK
 apply qz [(0,.imm (l.map aa.str)),(1,.str s),(7,nI l.length),(8,nI k)]
 apply ao
 apply qB 1
 apply qU 2 [(0,.imm (l.map aa.str)),(1,.str s),(5,nI k),(7,nI l.length),(8,nI k)]
 apply qV 3
 refine qy (aA (k:=.i64) (l:=l) (enc:=aa.str) (i:=((k:Nat):Int)) [] kq bi ty9 (fun _=>rfl) oq oq) ?_ ?_ ?_
 apply qR 2 [(0,.imm (l.map aa.str)),(1,.str s),(5,nI k),(7,nI l.length),(8,nI k),(16,.bool (s==(l.getD k [])))] []
 by_cases hb2:s=(l.getD k [])
 apply qt (beq_iff_eq.2 hb2)
 apply qV 2
 apply qT
 apply iR
 apply aR
 apply aR
 apply iR
 apply aR
 refine b9 (n:=((k:Nat):Int)) iq kq ?_
 rotate_left
 iterate 3 kernel_rfl
 apply qf (beq_eq_false_iff_ne.2 hb2)
 apply qk
 apply aj
 apply ab
 apply qz [(0,.imm (l.map aa.str)),(1,.str s),(7,nI l.length),(8,nI k)]
 apply qo
 refine qy (aN (a:=((k:Nat):Int)) (b:=1) kq oq oq) ?_ ?_ ?_
 apply qr 1
 apply qe
 refine ab ⟨k+1,?_,?_,⟨⟨kq,kq,kq,kq,trivial⟩,by simp [aQ,aa.bel],by simp,kq,by simp⟩⟩
 · omega
 · refine ⟨by omega,fun i hi=>?_⟩
   rcases Nat.lt_succ_iff_lt_or_eq.1 hi with h|h
   · exact ha i h
   · subst h;assumption
 iterate 19 kernel_rfl
 apply qf (decide_eq_false hb1)
 refine bn 0 kq kq ?_
 apply ae
 apply ae
 apply ay
 apply ab
 apply qz []
 apply qV 1
 apply qT
 refine b9 (n:=(-1)) iq kq ?_
 rotate_left
 iterate 15 kernel_rfl
 all_goals
  first|exact BO oq ha aq|exact Cf (fun i hi=>ha i oq)
noncomputable def c96:Code:=aB Tryz.f96
theorem fE (l:List (List UInt8)) (s:List UInt8) (hn:l.length<1000000000):aC cx 96 [.imm (l.map aa.str),.str s] (.bool (l.contains s)):=by
 refine am (cx:=cx) 9 0 [(ResultVar.tmp 4)] Tryz.func96 rfl rfl rfl rfl rfl zq ?_
 show wpA cx 9 0 (at_ c96 []) _ _ _
 apply qZ [(0,.imm (l.map aa.str)),(1,.str s)] []
 apply qU 1 [(0,.imm (l.map aa.str)),(1,.str s)]
 apply qV 2
 refine bR (args:=[.imm (l.map aa.str),.str s]) kq kq kq kq (me l s oq) (by simp [Ty.v]) (by simp [Ty.v]) (by simp [Ty.v]) ?_
 apply qX 2
 refine aL (b:=(decide ((cG l s) ≥ 0))) iq kq ?_
 · exact lB l s
 iterate 4 kernel_rfl
theorem ym (s:List UInt8):upN s=(!(([[73,110,116],[84,101,120,116],[66,111,111,108]]:List (List UInt8)).contains s) && cz 3 s):=by
 simp only [upN,List.contains_cons,List.contains_nil,Bool.or_false,Bool.not_or]
 rw [Bool.and_comm _ (cz 3 s)]
 simp only [Bool.and_assoc]
theorem kx {l:List (List UInt8)} {k:Nat} (h1:cz 2 (l.getD k [])=true) (h2:k=0∨aY (l.getD (k - 1) []) (l.getD k [])=true):nx l k=true:=by
 rw [nx,h1];rcases h2 with rfl|h2
 · rfl
 · rw [h2];simp
theorem Em {l:List (List UInt8)} {k:Nat} (h1:¬ cz 2 (l.getD k [])=true):nx l k=false:=by rw [nx,Bool.eq_false_iff.2 h1];rfl
theorem vQ {l:List (List UInt8)} {k:Nat} (h1:0<k) (h2:aY (l.getD (k - 1) []) (l.getD k [])=false):nx l k=false:=by
 rw [nx,h2];have:(k==0)=false:=by simp;omega
 rw [this];simp
theorem mq (a b:List UInt8):(aY a b || a==b)=!(aY b a):=by
 cases h:aY b a with
 | true =>
  have h1:aY a b=false:=by
   cases h2:aY a b with
   | false=>rfl
   | true=>have:=gX a b a h2 h;rw [fQ] at this;cases this
  have h2:(a==b)=false:=by
   rw [beq_eq_false_iff_ne];rintro rfl;rw [fQ] at h;cases h
  rw [h1,h2];rfl
 | false =>
  rcases oz b a h with rfl|h1
  · simp
  · rw [h1];rfl
theorem iC (k:Nat):(((k:Nat):Int) - 1).toNat=k - 1:=by omega
theorem Iz {t:Ty} (h:t.kind=0∨t.kind=1∨t.kind=2):fmd t=decide (t.name=[]∧t.n=0∧t.names.length=0∧t.kids.length=0):=by rw [fmd,if_pos h]
theorem I0 {t:Ty} (h:t.kind=3):fmd t=decide (t.n=0∧t.names.length=0∧t.kids.length=0∧upN t.name=true):=by rw [fmd,if_neg oq,if_pos h]
theorem Ik {t:Ty} (h:t.kind=4):fmd t=decide (t.name=[]∧t.n=0∧t.names.length=0∧t.kids.length=1):=by rw [fmd,if_neg oq,if_neg oq,if_pos h]
theorem IH {t:Ty} (h:t.kind=6):fmd t=decide (t.name=[]∧1≤t.n∧t.names.length=0∧t.kids.length=0):=by rw [fmd,if_neg oq,if_neg oq,if_neg oq,if_pos h]
theorem Ix {t:Ty} (h:t.kind=5):fmd t=decide (pC t.names=true∧t.name=[]∧0≤t.n∧t.names.length=t.kids.length):=by rw [fmd,if_neg oq,if_neg oq,if_neg oq,if_neg oq,if_pos h]
theorem Iy {t:Ty} (h:t.kind<0∨6<t.kind):fmd t=false:=by rw [fmd,if_neg oq,if_neg oq,if_neg oq,if_neg oq,if_neg oq]
theorem Jf {s:List UInt8} (h1:¬ ([[73,110,116],[84,101,120,116],[66,111,111,108]]:List (List UInt8)).contains s=true) (h2:cz 3 s=true):upN s=true:=by rw [ym,Bool.eq_false_iff.2 h1,h2];rfl
theorem GP {s:List UInt8} (h1:([[73,110,116],[84,101,120,116],[66,111,111,108]]:List (List UInt8)).contains s=true):¬ upN s=true:=by rw [ym,h1];simp
theorem G2 {s:List UInt8} (h2:¬ cz 3 s=true):¬ upN s=true:=by rw [ym,Bool.eq_false_iff.2 h2];simp
theorem Hr {l:List (List UInt8)} {k:Nat} (ha:∀ i,i<k→nx l i=true) (hk:l.length≤k):pC l=true:=tl fun i hi=>ha i oq
theorem Hq {l:List (List UInt8)} (k:Nat) (hk:k<l.length) (h:¬ cz 2 (l.getD k [])=true):¬ pC l=true:=Bool.eq_false_iff.1 (lL hk (Em h))
theorem Gc {l:List (List UInt8)} (k:Nat) (hk:k<l.length) (h0:0<k) (h:(aY (l.getD k []) (l.getD (((k:Nat):Int) - 1).toNat []) || l.getD k []==l.getD (((k:Nat):Int) - 1).toNat [])=true):¬ pC l=true:=by
 rw [iC,mq] at h
 exact Bool.eq_false_iff.1 (lL hk (vQ h0 (by simpa using h)))
theorem EL {l:List (List UInt8)} (k:Nat) (hk:k<l.length) (h0:0<k) (h:¬ aY (l.getD (((k:Nat):Int) - 1).toNat []) (l.getD k [])=true):¬ pC l=true:=by
 rw [iC] at h
 exact Bool.eq_false_iff.1 (lL hk (vQ h0 (Bool.eq_false_iff.2 h)))
noncomputable def c56:Code:=aB Tryz.f56
theorem tZ (t:Ty) (hs:t.sz<100000000):aC cx 56 [Ty.v t] (.bool (fmd t)):=by
 have hz1:=bP t
 have hz2:=cF t
 have hz3:=EE t
 refine am (cx:=cx) 139 0 [(ResultVar.tmp 2)] Tryz.func56 rfl rfl rfl rfl rfl zq ?_
 show wpA cx 139 0 (at_ c56 []) _ _ _
 apply qZ [(0,Ty.v t)] []
 apply qW 2 [(1,.ptr 0 0)] [t.bx]
 apply qV 4
 by_cases hb1:t.name=[]
 apply qm [8,9] (beq_iff_eq.2 hb1)
 apply qR 5 [(1,.ptr 0 0),(3,.bool ((t.n)==0))] [t.bx]
 apply ao
 apply qU 2 [(1,.ptr 0 0),(3,.bool ((t.n)==0)),(15,.int .i64 (t.kind))]
 apply qB 0
 apply ao
 apply qU 2 [(1,.ptr 0 0),(3,.bool ((t.n)==0)),(15,.int .i64 (t.kind)),(16,.bool ((t.kind)==0))]
 by_cases hb2:(t.kind)=0
 apply qt (beq_iff_eq.2 hb2)
 apply qK
 apply qz [(1,.ptr 0 0),(3,.bool ((t.n)==0)),(15,.int .i64 (t.kind)),(16,.bool ((t.kind)==0))]
 apply qt (beq_iff_eq.2 hb2)
 apply qV 2
 by_cases hb4:(t.n)=0
 apply qm [3,20,21] (beq_iff_eq.2 hb4)
 apply qr 2
 refine qy (au (l:=t.names) (enc:=aa.str) kq bi) ?_ ?_ ?_
 apply qr 2
 refine qy (au (l:=t.kids) (enc:=Ty.enc) kq ba) ?_ ?_ ?_
 refine qy (aN (a:=((t.names.length:Nat):Int)) (b:=((t.kids.length:Nat):Int)) kq oq oq) ?_ ?_ ?_
 apply qX 3
 apply iR
 apply aR
 refine aL (b:=((((t.names.length+t.kids.length):Nat):Int)==0)) iq kq ?_
 by_cases hb5:(((t.names.length+t.kids.length):Nat):Int)=0
 refine Eq.trans (beq_iff_eq.2 hb5) ?_
 rotate_left
 refine Eq.trans (beq_eq_false_iff_ne.2 hb5) ?_
 rotate_left
 iterate 10 kernel_rfl
 apply qm [3,20,21] (beq_eq_false_iff_ne.2 hb4)
 apply qX 10
 apply iR
 apply aR
 refine aL (b:=false) iq kq ?_
 rotate_left
 iterate 7 kernel_rfl
 apply qf (beq_eq_false_iff_ne.2 hb2)
 apply qU 2 [(1,.ptr 0 0),(3,.bool ((t.n)==0)),(15,.int .i64 (t.kind)),(16,.bool ((t.kind)==1))]
 by_cases hb6:(t.kind)=1
 apply qt (beq_iff_eq.2 hb6)
 apply qK
 apply qz [(1,.ptr 0 0),(3,.bool ((t.n)==0)),(15,.int .i64 (t.kind)),(16,.bool ((t.kind)==1))]
 apply qt (beq_iff_eq.2 hb6)
 apply qV 2
 by_cases hb8:(t.n)=0
 apply qm [3,20,21] (beq_iff_eq.2 hb8)
 apply qr 2
 refine qy (au (l:=t.names) (enc:=aa.str) kq bi) ?_ ?_ ?_
 apply qr 2
 refine qy (au (l:=t.kids) (enc:=Ty.enc) kq ba) ?_ ?_ ?_
 refine qy (aN (a:=((t.names.length:Nat):Int)) (b:=((t.kids.length:Nat):Int)) kq oq oq) ?_ ?_ ?_
 apply qX 3
 apply iR
 apply aR
 refine aL (b:=((((t.names.length+t.kids.length):Nat):Int)==0)) iq kq ?_
 by_cases hb9:(((t.names.length+t.kids.length):Nat):Int)=0
 refine Eq.trans (beq_iff_eq.2 hb9) ?_
 rotate_left
 refine Eq.trans (beq_eq_false_iff_ne.2 hb9) ?_
 rotate_left
 iterate 10 kernel_rfl
 apply qm [3,20,21] (beq_eq_false_iff_ne.2 hb8)
 apply qX 10
 apply iR
 apply aR
 refine aL (b:=false) iq kq ?_
 rotate_left
 iterate 7 kernel_rfl
 apply qf (beq_eq_false_iff_ne.2 hb6)
 apply qo
 apply qR 2 [(1,.ptr 0 0),(3,.bool ((t.n)==0)),(15,.int .i64 (t.kind)),(16,.bool ((t.kind)==2))] [t.bx]
 by_cases hb10:(t.kind)=2
 apply qt (beq_iff_eq.2 hb10)
 apply qV 2
 by_cases hb11:(t.n)=0
 apply qm [3,20,21] (beq_iff_eq.2 hb11)
 apply qr 2
 refine qy (au (l:=t.names) (enc:=aa.str) kq bi) ?_ ?_ ?_
 apply qr 2
 refine qy (au (l:=t.kids) (enc:=Ty.enc) kq ba) ?_ ?_ ?_
 refine qy (aN (a:=((t.names.length:Nat):Int)) (b:=((t.kids.length:Nat):Int)) kq oq oq) ?_ ?_ ?_
 apply qX 3
 apply iR
 apply aR
 refine aL (b:=((((t.names.length+t.kids.length):Nat):Int)==0)) iq kq ?_
 by_cases hb12:(((t.names.length+t.kids.length):Nat):Int)=0
 refine Eq.trans (beq_iff_eq.2 hb12) ?_
 rotate_left
 refine Eq.trans (beq_eq_false_iff_ne.2 hb12) ?_
 rotate_left
 iterate 10 kernel_rfl
 apply qm [3,20,21] (beq_eq_false_iff_ne.2 hb11)
 apply qX 10
 apply iR
 apply aR
 refine aL (b:=false) iq kq ?_
 rotate_left
 iterate 4 kernel_rfl
 apply qf (beq_eq_false_iff_ne.2 hb10)
 apply qU 2 [(1,.ptr 0 0),(3,.bool ((t.n)==0)),(15,.int .i64 (t.kind)),(31,.bool ((t.kind)==3))]
 by_cases hb13:(t.kind)=3
 apply qt (beq_iff_eq.2 hb13)
 apply qV 4
 by_cases hb14:(t.n)=0
 apply qm [3,35,36] (beq_iff_eq.2 hb14)
 apply qr 2
 refine qy (au (l:=t.names) (enc:=aa.str) kq bi) ?_ ?_ ?_
 apply qr 2
 refine qy (au (l:=t.kids) (enc:=Ty.enc) kq ba) ?_ ?_ ?_
 refine qy (aN (a:=((t.names.length:Nat):Int)) (b:=((t.kids.length:Nat):Int)) kq oq oq) ?_ ?_ ?_
 apply qr 3
 by_cases hb15:(((t.names.length+t.kids.length):Nat):Int)=0
 apply qm [44,45,46] (beq_iff_eq.2 hb15)
 apply qr 3
 refine qc [.full [.str [73,110,116],.str [84,101,120,116],.str [66,111,111,108]],.str t.name] (fE [[73,110,116],[84,101,120,116],[66,111,111,108]] t.name (by simp)) ?_ ?_
 apply qr 3
 by_cases hb16:([[73,110,116],[84,101,120,116],[66,111,111,108]].contains t.name)=true
 refine qm [51,52,53] (x:=(!([[73,110,116],[84,101,120,116],[66,111,111,108]].contains t.name))) (congrArg not (hb16)) ?_ ?_
 apply qX 6
 apply iR
 apply aR
 refine aL (b:=false) iq kq ?_
 rotate_left
 iterate 2 kernel_rfl
 refine qm [51,52,53] (x:=(!([[73,110,116],[84,101,120,116],[66,111,111,108]].contains t.name))) (congrArg not (Bool.eq_false_iff.2 hb16)) ?_ ?_
 apply qr 3
 refine qc [.agg [.int .i64 3,.str t.name,.int .i64 0]] (pz t.name oq) ?_ ?_
 apply qX 2
 apply iR
 apply aR
 refine aL (b:=(cz 3 t.name)) iq kq ?_
 by_cases hb17:(cz 3 t.name)=true
 refine Eq.trans (hb17) ?_
 rotate_left
 refine Eq.trans (Bool.eq_false_iff.2 hb17) ?_
 rotate_left
 iterate 8 kernel_rfl
 apply qm [44,45,46] (beq_eq_false_iff_ne.2 hb15)
 apply qX 13
 apply iR
 apply aR
 refine aL (b:=false) iq kq ?_
 rotate_left
 iterate 12 kernel_rfl
 apply qm [3,35,36] (beq_eq_false_iff_ne.2 hb14)
 apply qX 23
 apply iR
 apply aR
 refine aL (b:=false) iq kq ?_
 rotate_left
 iterate 4 kernel_rfl
 apply qf (beq_eq_false_iff_ne.2 hb13)
 apply qU 2 [(1,.ptr 0 0),(3,.bool ((t.n)==0)),(15,.int .i64 (t.kind)),(59,.bool ((t.kind)==4))]
 by_cases hb18:(t.kind)=4
 apply qt (beq_iff_eq.2 hb18)
 apply qV 2
 by_cases hb19:(t.n)=0
 apply qm [3,61,62] (beq_iff_eq.2 hb19)
 apply qr 2
 refine qy (au (l:=t.names) (enc:=aa.str) kq bi) ?_ ?_ ?_
 apply qr 3
 by_cases hb20:((t.names.length:Nat):Int)=0
 apply qm [66,67,68] (beq_iff_eq.2 hb20)
 apply qr 2
 refine qy (au (l:=t.kids) (enc:=Ty.enc) kq ba) ?_ ?_ ?_
 apply qX 3
 apply iR
 apply aR
 refine aL (b:=(((t.kids.length:Nat):Int)==1)) iq kq ?_
 by_cases hb21:((t.kids.length:Nat):Int)=1
 refine Eq.trans (beq_iff_eq.2 hb21) ?_
 rotate_left
 refine Eq.trans (beq_eq_false_iff_ne.2 hb21) ?_
 rotate_left
 iterate 5 kernel_rfl
 apply qm [66,67,68] (beq_eq_false_iff_ne.2 hb20)
 apply qX 6
 apply iR
 apply aR
 refine aL (b:=false) iq kq ?_
 rotate_left
 iterate 7 kernel_rfl
 apply qm [3,61,62] (beq_eq_false_iff_ne.2 hb19)
 apply qX 12
 apply iR
 apply aR
 refine aL (b:=false) iq kq ?_
 rotate_left
 iterate 4 kernel_rfl
 apply qf (beq_eq_false_iff_ne.2 hb18)
 apply qU 2 [(1,.ptr 0 0),(15,.int .i64 (t.kind)),(74,.bool ((t.kind)==6))]
 by_cases hb22:(t.kind)=6
 apply qt (beq_iff_eq.2 hb22)
 apply qV 4
 apply qm [78,79] (beq_iff_eq.2 hb1)
 apply qr 5
 by_cases hb24:(t.n) ≥ 1
 apply qm [82,83,84] (decide_eq_true hb24)
 apply qr 2
 refine qy (au (l:=t.names) (enc:=aa.str) kq bi) ?_ ?_ ?_
 apply qr 2
 refine qy (au (l:=t.kids) (enc:=Ty.enc) kq ba) ?_ ?_ ?_
 refine qy (aN (a:=((t.names.length:Nat):Int)) (b:=((t.kids.length:Nat):Int)) kq oq oq) ?_ ?_ ?_
 apply qX 3
 apply iR
 apply aR
 refine aL (b:=((((t.names.length+t.kids.length):Nat):Int)==0)) iq kq ?_
 by_cases hb25:(((t.names.length+t.kids.length):Nat):Int)=0
 refine Eq.trans (beq_iff_eq.2 hb25) ?_
 rotate_left
 refine Eq.trans (beq_eq_false_iff_ne.2 hb25) ?_
 rotate_left
 iterate 10 kernel_rfl
 apply qm [82,83,84] (decide_eq_false hb24)
 apply qX 10
 apply iR
 apply aR
 refine aL (b:=false) iq kq ?_
 rotate_left
 iterate 6 kernel_rfl
 apply qf (beq_eq_false_iff_ne.2 hb22)
 apply qU 2 [(1,.ptr 0 0),(94,.bool ((t.kind)==5))]
 by_cases hb26:(t.kind)=5
 apply qt (beq_iff_eq.2 hb26)
 apply ao
 apply qV 2
 refine qy (au (l:=t.names) (enc:=aa.str) kq bi) ?_ ?_ ?_
 apply qR 1 [(1,.ptr 0 0),(97,.imm (t.names.map aa.str)),(98,nI t.names.length),(99,.int .i64 0)] [t.bx]
 apply qB 1
 refine bB (σ:=Nat) (fun k=>[(1,.ptr 0 0),(97,.imm (t.names.map aa.str)),(98,.int .i64 ((t.names.length:Nat):Int)),(99,.int .i64 ((k:Nat):Int))]) (fun k=>[t.bx]) (fun k=>k≤t.names.length∧∀ i,i<k→nx t.names i=true) (fun k=>t.names.length - k) 0 kq zq ⟨⟨kq,kq,kq,kq,trivial⟩,by simp [aQ,aa.bel],by simp,kq,by simp [af.belO]⟩ ?_
 rintro k ⟨hk,ha⟩
 apply qW 1 [(1,.ptr 0 0),(97,.imm (t.names.map aa.str)),(98,nI t.names.length),(99,nI k),(100,.bool (decide (((k:Nat):Int)<((t.names.length:Nat):Int))))] [t.bx]
 apply ao
 by_cases hb27:((k:Nat):Int)<((t.names.length:Nat):Int)
 apply qt (decide_eq_true hb27)
 apply qK
 apply qz [(1,.ptr 0 0),(97,.imm (t.names.map aa.str)),(98,nI t.names.length),(99,nI k)]
 apply ao
 apply qB 2
 apply qV 1
 refine qy (aA (k:=.i64) (l:=t.names) (enc:=aa.str) (i:=((k:Nat):Int)) [] kq bi ty9 (fun _=>rfl) oq oq) ?_ ?_ ?_
 apply qR 3 [(1,.ptr 0 0),(4,nI k),(5,.str (t.names.getD k [])),(97,.imm (t.names.map aa.str)),(98,nI t.names.length),(99,nI k)] [t.bx]
 apply qV 1
 refine qc [.str (t.names.getD k [])] (jX (t.names.getD k []) (by have:=fy t k;omega)) ?_ ?_
 apply qr 2
 by_cases hb28:(cz 2 (t.names.getD k []))=true
 refine qm [106,107] (x:=(!(cz 2 (t.names.getD k [])))) (congrArg not (hb28)) ?_ ?_
 apply qr 3
 by_cases hb29:((k:Nat):Int) > 0
 apply qm [109,110] (decide_eq_true hb29)
 apply qr 4
 refine qy (AJ (a:=((k:Nat):Int)) (b:=1) kq oq oq) ?_ ?_ ?_
 refine qy (aA (k:=.i64) (l:=t.names) (enc:=aa.str) (i:=(((k:Nat):Int) - 1)) [] kq bi ty9 (fun _=>rfl) oq oq) ?_ ?_ ?_
 apply qR 4 [(1,.ptr 0 0),(97,.imm (t.names.map aa.str)),(98,nI t.names.length),(99,nI k),(108,nI k),(109,.bool true),(110,.bool true),(111,.str (t.names.getD k [])),(112,.ptr 0 3),(113,.imm (t.names.map aa.str)),(114,nI k),(115,.int .i64 (((k:Nat):Int) - 1)),(116,.pimm [.str (t.names.getD (((((k:Nat):Int) - 1)).toNat) [])] 0),(117,.str (t.names.getD (((((k:Nat):Int) - 1)).toNat) [])),(118,.bool (aY (t.names.getD k []) (t.names.getD (((((k:Nat):Int) - 1)).toNat) []) || (t.names.getD k [])==(t.names.getD (((((k:Nat):Int) - 1)).toNat) []))),(119,.bool (aY (t.names.getD k []) (t.names.getD (((((k:Nat):Int) - 1)).toNat) []) || (t.names.getD k [])==(t.names.getD (((((k:Nat):Int) - 1)).toNat) []))),(120,.bool (aY (t.names.getD k []) (t.names.getD (((((k:Nat):Int) - 1)).toNat) []) || (t.names.getD k [])==(t.names.getD (((((k:Nat):Int) - 1)).toNat) [])))] [t.bx]
 by_cases hb30:(aY (t.names.getD k []) (t.names.getD (((((k:Nat):Int) - 1)).toNat) []) || (t.names.getD k [])==(t.names.getD (((((k:Nat):Int) - 1)).toNat) []))=true
 apply qt (hb30)
 apply qV 1
 apply qT
 apply iR
 apply aR
 apply aR
 apply iR
 apply aR
 apply iR
 apply aR
 refine aL (b:=false) iq kq ?_
 rotate_left
 iterate 3 kernel_rfl
 apply qf (Bool.eq_false_iff.2 hb30)
 apply qk
 apply aj
 apply ab
 apply qz [(1,.ptr 0 0),(97,.imm (t.names.map aa.str)),(98,nI t.names.length),(99,nI k),(108,nI k),(109,.bool true),(110,.bool true),(111,.str (t.names.getD k [])),(112,.ptr 0 3),(113,.imm (t.names.map aa.str)),(114,nI k),(115,.int .i64 (((k:Nat):Int) - 1)),(116,.pimm [.str (t.names.getD (((((k:Nat):Int) - 1)).toNat) [])] 0),(117,.str (t.names.getD (((((k:Nat):Int) - 1)).toNat) [])),(118,.bool (aY (t.names.getD k []) (t.names.getD (((((k:Nat):Int) - 1)).toNat) []) || (t.names.getD k [])==(t.names.getD (((((k:Nat):Int) - 1)).toNat) []))),(119,.bool (aY (t.names.getD k []) (t.names.getD (((((k:Nat):Int) - 1)).toNat) []) || (t.names.getD k [])==(t.names.getD (((((k:Nat):Int) - 1)).toNat) [])))]
 apply qo
 refine qy (aN (a:=((k:Nat):Int)) (b:=1) kq oq oq) ?_ ?_ ?_
 apply qr 1
 apply qe
 refine ab ⟨k+1,?_,?_,⟨⟨kq,kq,kq,kq,trivial⟩,by simp [aQ,aa.bel],by simp,kq,by simp [af.belO]⟩⟩
 · omega
 · refine ⟨by omega,fun i hi=>?_⟩
   rcases Nat.lt_succ_iff_lt_or_eq.1 hi with h|h
   · exact ha i h
   · subst h;refine kx aq ?_;first|(left;omega)|(right;simp_all [iC,mq];done)
 iterate 15 kernel_rfl
 apply qm [109,110] (decide_eq_false hb29)
 apply qR 10 [(1,.ptr 0 0),(97,.imm (t.names.map aa.str)),(98,nI t.names.length),(99,nI k),(108,nI k),(109,.bool false),(110,.bool false),(111,.tup []),(112,.tup []),(113,.tup []),(114,.tup []),(115,.tup []),(116,.tup []),(117,.tup []),(118,.tup []),(119,.bool false),(120,.bool false)] [t.bx]
 refine d5 kq kq ?_
 apply qk
 apply aj
 apply ab
 apply qz [(1,.ptr 0 0),(97,.imm (t.names.map aa.str)),(98,nI t.names.length),(99,nI k),(108,nI k),(109,.bool false),(110,.bool false),(111,.tup []),(112,.tup []),(113,.tup []),(114,.tup []),(115,.tup []),(116,.tup []),(117,.tup []),(118,.tup []),(119,.bool false)]
 apply qo
 refine qy (aN (a:=((k:Nat):Int)) (b:=1) kq oq oq) ?_ ?_ ?_
 apply qr 1
 apply qe
 refine ab ⟨k+1,?_,?_,⟨⟨kq,kq,kq,kq,trivial⟩,by simp [aQ,aa.bel],by simp,kq,by simp [af.belO]⟩⟩
 · omega
 · refine ⟨by omega,fun i hi=>?_⟩
   rcases Nat.lt_succ_iff_lt_or_eq.1 hi with h|h
   · exact ha i h
   · subst h;refine kx aq ?_;first|(left;omega)|(right;simp_all [iC,mq];done)
 iterate 11 kernel_rfl
 refine qm [106,107] (x:=(!(cz 2 (t.names.getD k [])))) (congrArg not (Bool.eq_false_iff.2 hb28)) ?_ ?_
 apply qR 13 [(1,.ptr 0 0),(97,.imm (t.names.map aa.str)),(98,nI t.names.length),(99,nI k),(108,.tup []),(109,.tup []),(110,.tup []),(111,.tup []),(112,.tup []),(113,.tup []),(114,.tup []),(115,.tup []),(116,.tup []),(117,.tup []),(118,.tup []),(119,.tup []),(120,.bool true)] [t.bx]
 refine cw kq kq ?_
 apply qV 1
 apply qT
 apply iR
 apply aR
 apply aR
 apply iR
 apply aR
 apply iR
 apply aR
 refine aL (b:=false) iq kq ?_
 rotate_left
 iterate 17 kernel_rfl
 apply qf (decide_eq_false hb27)
 refine bn 1 kq kq ?_
 apply ae
 apply ae
 apply ay
 apply ab
 apply qz [(1,.ptr 0 0)]
 apply qV 4
 apply qm [124,125] (beq_iff_eq.2 hb1)
 apply qr 5
 by_cases hb32:(t.n) ≥ 0
 apply qm [128,129,130] (decide_eq_true hb32)
 apply qr 2
 refine qy (au (l:=t.names) (enc:=aa.str) kq bi) ?_ ?_ ?_
 apply qr 2
 refine qy (au (l:=t.kids) (enc:=Ty.enc) kq ba) ?_ ?_ ?_
 apply qX 3
 apply iR
 apply aR
 refine aL (b:=(((t.names.length:Nat):Int)==((t.kids.length:Nat):Int))) iq kq ?_
 by_cases hb33:((t.names.length:Nat):Int)=((t.kids.length:Nat):Int)
 refine Eq.trans (beq_iff_eq.2 hb33) ?_
 rotate_left
 refine Eq.trans (beq_eq_false_iff_ne.2 hb33) ?_
 rotate_left
 iterate 8 kernel_rfl
 apply qm [128,129,130] (decide_eq_false hb32)
 apply qX 9
 apply iR
 apply aR
 refine aL (b:=false) iq kq ?_
 rotate_left
 iterate 17 kernel_rfl
 apply qf (beq_eq_false_iff_ne.2 hb26)
 apply qk
 apply aj
 apply ab
 apply qz []
 apply qV 1
 apply qT
 refine aL (b:=false) iq kq ?_
 rotate_left
 iterate 26 kernel_rfl
 apply qm [8,9] (beq_eq_false_iff_ne.2 hb1)
 apply qR 5 [(1,.ptr 0 0),(3,.bool false)] [t.bx]
 apply ao
 apply qU 2 [(1,.ptr 0 0),(3,.bool false),(15,.int .i64 (t.kind))]
 apply qB 0
 apply ao
 apply qU 2 [(1,.ptr 0 0),(3,.bool false),(15,.int .i64 (t.kind)),(16,.bool ((t.kind)==0))]
 by_cases hb34:(t.kind)=0
 apply qt (beq_iff_eq.2 hb34)
 apply qK
 apply qz [(1,.ptr 0 0),(3,.bool false),(15,.int .i64 (t.kind)),(16,.bool ((t.kind)==0))]
 apply qt (beq_iff_eq.2 hb34)
 apply qV 12
 apply qT
 apply iR
 apply aR
 refine aL (b:=false) iq kq ?_
 rotate_left
 iterate 6 kernel_rfl
 apply qf (beq_eq_false_iff_ne.2 hb34)
 apply qU 2 [(1,.ptr 0 0),(3,.bool false),(15,.int .i64 (t.kind)),(16,.bool ((t.kind)==1))]
 by_cases hb36:(t.kind)=1
 apply qt (beq_iff_eq.2 hb36)
 apply qK
 apply qz [(1,.ptr 0 0),(3,.bool false),(15,.int .i64 (t.kind)),(16,.bool ((t.kind)==1))]
 apply qt (beq_iff_eq.2 hb36)
 apply qV 12
 apply qT
 apply iR
 apply aR
 refine aL (b:=false) iq kq ?_
 rotate_left
 iterate 6 kernel_rfl
 apply qf (beq_eq_false_iff_ne.2 hb36)
 apply qo
 apply qR 2 [(1,.ptr 0 0),(3,.bool false),(15,.int .i64 (t.kind)),(16,.bool ((t.kind)==2))] [t.bx]
 by_cases hb38:(t.kind)=2
 apply qt (beq_iff_eq.2 hb38)
 apply qV 12
 apply qT
 apply iR
 apply aR
 refine aL (b:=false) iq kq ?_
 rotate_left
 iterate 3 kernel_rfl
 apply qf (beq_eq_false_iff_ne.2 hb38)
 apply qU 2 [(1,.ptr 0 0),(3,.bool false),(15,.int .i64 (t.kind)),(31,.bool ((t.kind)==3))]
 by_cases hb39:(t.kind)=3
 apply qt (beq_iff_eq.2 hb39)
 apply qV 4
 by_cases hb40:(t.n)=0
 apply qm [35,36] (beq_iff_eq.2 hb40)
 apply qr 2
 refine qy (au (l:=t.names) (enc:=aa.str) kq bi) ?_ ?_ ?_
 apply qr 2
 refine qy (au (l:=t.kids) (enc:=Ty.enc) kq ba) ?_ ?_ ?_
 refine qy (aN (a:=((t.names.length:Nat):Int)) (b:=((t.kids.length:Nat):Int)) kq oq oq) ?_ ?_ ?_
 apply qr 3
 by_cases hb41:(((t.names.length+t.kids.length):Nat):Int)=0
 apply qm [44,45,46] (beq_iff_eq.2 hb41)
 apply qr 3
 refine qc [.full [.str [73,110,116],.str [84,101,120,116],.str [66,111,111,108]],.str t.name] (fE [[73,110,116],[84,101,120,116],[66,111,111,108]] t.name (by simp)) ?_ ?_
 apply qr 3
 by_cases hb42:([[73,110,116],[84,101,120,116],[66,111,111,108]].contains t.name)=true
 refine qm [51,52,53] (x:=(!([[73,110,116],[84,101,120,116],[66,111,111,108]].contains t.name))) (congrArg not (hb42)) ?_ ?_
 apply qX 6
 apply iR
 apply aR
 refine aL (b:=false) iq kq ?_
 rotate_left
 iterate 2 kernel_rfl
 refine qm [51,52,53] (x:=(!([[73,110,116],[84,101,120,116],[66,111,111,108]].contains t.name))) (congrArg not (Bool.eq_false_iff.2 hb42)) ?_ ?_
 apply qr 3
 refine qc [.agg [.int .i64 3,.str t.name,.int .i64 0]] (pz t.name oq) ?_ ?_
 apply qX 2
 apply iR
 apply aR
 refine aL (b:=(cz 3 t.name)) iq kq ?_
 by_cases hb43:(cz 3 t.name)=true
 refine Eq.trans (hb43) ?_
 rotate_left
 refine Eq.trans (Bool.eq_false_iff.2 hb43) ?_
 rotate_left
 iterate 8 kernel_rfl
 apply qm [44,45,46] (beq_eq_false_iff_ne.2 hb41)
 apply qX 13
 apply iR
 apply aR
 refine aL (b:=false) iq kq ?_
 rotate_left
 iterate 12 kernel_rfl
 apply qm [35,36] (beq_eq_false_iff_ne.2 hb40)
 apply qX 23
 apply iR
 apply aR
 refine aL (b:=false) iq kq ?_
 rotate_left
 iterate 4 kernel_rfl
 apply qf (beq_eq_false_iff_ne.2 hb39)
 apply qU 2 [(1,.ptr 0 0),(3,.bool false),(15,.int .i64 (t.kind)),(59,.bool ((t.kind)==4))]
 by_cases hb44:(t.kind)=4
 apply qt (beq_iff_eq.2 hb44)
 apply qV 14
 apply qT
 apply iR
 apply aR
 refine aL (b:=false) iq kq ?_
 rotate_left
 iterate 3 kernel_rfl
 apply qf (beq_eq_false_iff_ne.2 hb44)
 apply qU 2 [(1,.ptr 0 0),(15,.int .i64 (t.kind)),(74,.bool ((t.kind)==6))]
 by_cases hb45:(t.kind)=6
 apply qt (beq_iff_eq.2 hb45)
 apply qV 4
 apply qm [78,79] (beq_eq_false_iff_ne.2 hb1)
 apply qX 15
 apply iR
 apply aR
 refine aL (b:=false) iq kq ?_
 rotate_left
 iterate 4 kernel_rfl
 apply qf (beq_eq_false_iff_ne.2 hb45)
 apply qU 2 [(1,.ptr 0 0),(94,.bool ((t.kind)==5))]
 by_cases hb47:(t.kind)=5
 apply qt (beq_iff_eq.2 hb47)
 apply ao
 apply qV 2
 refine qy (au (l:=t.names) (enc:=aa.str) kq bi) ?_ ?_ ?_
 apply qR 1 [(1,.ptr 0 0),(97,.imm (t.names.map aa.str)),(98,nI t.names.length),(99,.int .i64 0)] [t.bx]
 apply qB 1
 refine bB (σ:=Nat) (fun k=>[(1,.ptr 0 0),(97,.imm (t.names.map aa.str)),(98,.int .i64 ((t.names.length:Nat):Int)),(99,.int .i64 ((k:Nat):Int))]) (fun k=>[t.bx]) (fun k=>k≤t.names.length∧∀ i,i<k→nx t.names i=true) (fun k=>t.names.length - k) 0 kq zq ⟨⟨kq,kq,kq,kq,trivial⟩,by simp [aQ,aa.bel],by simp,kq,by simp [af.belO]⟩ ?_
 rintro k ⟨hk,ha⟩
 apply qW 1 [(1,.ptr 0 0),(97,.imm (t.names.map aa.str)),(98,nI t.names.length),(99,nI k),(100,.bool (decide (((k:Nat):Int)<((t.names.length:Nat):Int))))] [t.bx]
 apply ao
 by_cases hb48:((k:Nat):Int)<((t.names.length:Nat):Int)
 apply qt (decide_eq_true hb48)
 apply qK
 apply qz [(1,.ptr 0 0),(97,.imm (t.names.map aa.str)),(98,nI t.names.length),(99,nI k)]
 apply ao
 apply qB 2
 apply qV 1
 refine qy (aA (k:=.i64) (l:=t.names) (enc:=aa.str) (i:=((k:Nat):Int)) [] kq bi ty9 (fun _=>rfl) oq oq) ?_ ?_ ?_
 apply qR 3 [(1,.ptr 0 0),(4,nI k),(5,.str (t.names.getD k [])),(97,.imm (t.names.map aa.str)),(98,nI t.names.length),(99,nI k)] [t.bx]
 apply qV 1
 refine qc [.str (t.names.getD k [])] (jX (t.names.getD k []) (by have:=fy t k;omega)) ?_ ?_
 apply qr 2
 by_cases hb49:(cz 2 (t.names.getD k []))=true
 refine qm [106,107] (x:=(!(cz 2 (t.names.getD k [])))) (congrArg not (hb49)) ?_ ?_
 apply qr 3
 by_cases hb50:((k:Nat):Int) > 0
 apply qm [109,110] (decide_eq_true hb50)
 apply qr 4
 refine qy (AJ (a:=((k:Nat):Int)) (b:=1) kq oq oq) ?_ ?_ ?_
 refine qy (aA (k:=.i64) (l:=t.names) (enc:=aa.str) (i:=(((k:Nat):Int) - 1)) [] kq bi ty9 (fun _=>rfl) oq oq) ?_ ?_ ?_
 apply qR 4 [(1,.ptr 0 0),(97,.imm (t.names.map aa.str)),(98,nI t.names.length),(99,nI k),(108,nI k),(109,.bool true),(110,.bool true),(111,.str (t.names.getD k [])),(112,.ptr 0 3),(113,.imm (t.names.map aa.str)),(114,nI k),(115,.int .i64 (((k:Nat):Int) - 1)),(116,.pimm [.str (t.names.getD (((((k:Nat):Int) - 1)).toNat) [])] 0),(117,.str (t.names.getD (((((k:Nat):Int) - 1)).toNat) [])),(118,.bool (aY (t.names.getD k []) (t.names.getD (((((k:Nat):Int) - 1)).toNat) []) || (t.names.getD k [])==(t.names.getD (((((k:Nat):Int) - 1)).toNat) []))),(119,.bool (aY (t.names.getD k []) (t.names.getD (((((k:Nat):Int) - 1)).toNat) []) || (t.names.getD k [])==(t.names.getD (((((k:Nat):Int) - 1)).toNat) []))),(120,.bool (aY (t.names.getD k []) (t.names.getD (((((k:Nat):Int) - 1)).toNat) []) || (t.names.getD k [])==(t.names.getD (((((k:Nat):Int) - 1)).toNat) [])))] [t.bx]
 by_cases hb51:(aY (t.names.getD k []) (t.names.getD (((((k:Nat):Int) - 1)).toNat) []) || (t.names.getD k [])==(t.names.getD (((((k:Nat):Int) - 1)).toNat) []))=true
 apply qt (hb51)
 apply qV 1
 apply qT
 apply iR
 apply aR
 apply aR
 apply iR
 apply aR
 apply iR
 apply aR
 refine aL (b:=false) iq kq ?_
 rotate_left
 iterate 3 kernel_rfl
 apply qf (Bool.eq_false_iff.2 hb51)
 apply qk
 apply aj
 apply ab
 apply qz [(1,.ptr 0 0),(97,.imm (t.names.map aa.str)),(98,nI t.names.length),(99,nI k),(108,nI k),(109,.bool true),(110,.bool true),(111,.str (t.names.getD k [])),(112,.ptr 0 3),(113,.imm (t.names.map aa.str)),(114,nI k),(115,.int .i64 (((k:Nat):Int) - 1)),(116,.pimm [.str (t.names.getD (((((k:Nat):Int) - 1)).toNat) [])] 0),(117,.str (t.names.getD (((((k:Nat):Int) - 1)).toNat) [])),(118,.bool (aY (t.names.getD k []) (t.names.getD (((((k:Nat):Int) - 1)).toNat) []) || (t.names.getD k [])==(t.names.getD (((((k:Nat):Int) - 1)).toNat) []))),(119,.bool (aY (t.names.getD k []) (t.names.getD (((((k:Nat):Int) - 1)).toNat) []) || (t.names.getD k [])==(t.names.getD (((((k:Nat):Int) - 1)).toNat) [])))]
 apply qo
 refine qy (aN (a:=((k:Nat):Int)) (b:=1) kq oq oq) ?_ ?_ ?_
 apply qr 1
 apply qe
 refine ab ⟨k+1,?_,?_,⟨⟨kq,kq,kq,kq,trivial⟩,by simp [aQ,aa.bel],by simp,kq,by simp [af.belO]⟩⟩
 · omega
 · refine ⟨by omega,fun i hi=>?_⟩
   rcases Nat.lt_succ_iff_lt_or_eq.1 hi with h|h
   · exact ha i h
   · subst h;refine kx aq ?_;first|(left;omega)|(right;simp_all [iC,mq];done)
 iterate 15 kernel_rfl
 apply qm [109,110] (decide_eq_false hb50)
 apply qR 10 [(1,.ptr 0 0),(97,.imm (t.names.map aa.str)),(98,nI t.names.length),(99,nI k),(108,nI k),(109,.bool false),(110,.bool false),(111,.tup []),(112,.tup []),(113,.tup []),(114,.tup []),(115,.tup []),(116,.tup []),(117,.tup []),(118,.tup []),(119,.bool false),(120,.bool false)] [t.bx]
 refine d5 kq kq ?_
 apply qk
 apply aj
 apply ab
 apply qz [(1,.ptr 0 0),(97,.imm (t.names.map aa.str)),(98,nI t.names.length),(99,nI k),(108,nI k),(109,.bool false),(110,.bool false),(111,.tup []),(112,.tup []),(113,.tup []),(114,.tup []),(115,.tup []),(116,.tup []),(117,.tup []),(118,.tup []),(119,.bool false)]
 apply qo
 refine qy (aN (a:=((k:Nat):Int)) (b:=1) kq oq oq) ?_ ?_ ?_
 apply qr 1
 apply qe
 refine ab ⟨k+1,?_,?_,⟨⟨kq,kq,kq,kq,trivial⟩,by simp [aQ,aa.bel],by simp,kq,by simp [af.belO]⟩⟩
 · omega
 · refine ⟨by omega,fun i hi=>?_⟩
   rcases Nat.lt_succ_iff_lt_or_eq.1 hi with h|h
   · exact ha i h
   · subst h;refine kx aq ?_;first|(left;omega)|(right;simp_all [iC,mq];done)
 iterate 11 kernel_rfl
 refine qm [106,107] (x:=(!(cz 2 (t.names.getD k [])))) (congrArg not (Bool.eq_false_iff.2 hb49)) ?_ ?_
 apply qR 13 [(1,.ptr 0 0),(97,.imm (t.names.map aa.str)),(98,nI t.names.length),(99,nI k),(108,.tup []),(109,.tup []),(110,.tup []),(111,.tup []),(112,.tup []),(113,.tup []),(114,.tup []),(115,.tup []),(116,.tup []),(117,.tup []),(118,.tup []),(119,.tup []),(120,.bool true)] [t.bx]
 refine cw kq kq ?_
 apply qV 1
 apply qT
 apply iR
 apply aR
 apply aR
 apply iR
 apply aR
 apply iR
 apply aR
 refine aL (b:=false) iq kq ?_
 rotate_left
 iterate 17 kernel_rfl
 apply qf (decide_eq_false hb48)
 refine bn 1 kq kq ?_
 apply ae
 apply ae
 apply ay
 apply ab
 apply qz [(1,.ptr 0 0)]
 apply qV 4
 apply qm [124,125] (beq_eq_false_iff_ne.2 hb1)
 apply qX 14
 apply iR
 apply aR
 refine aL (b:=false) iq kq ?_
 rotate_left
 iterate 15 kernel_rfl
 apply qf (beq_eq_false_iff_ne.2 hb47)
 apply qk
 apply aj
 apply ab
 apply qz []
 apply qV 1
 apply qT
 refine aL (b:=false) iq kq ?_
 rotate_left
 iterate 29 kernel_rfl
 all_goals
  first|rw [Iy oq]|(first|rw [Iz oq]|rw [I0 oq]|rw [Ik oq]|rw [IH oq]|rw [Ix oq])
  all_goals symm
  all_goals (first|(refine decide_eq_true ⟨?_,?_,?_,?_⟩ <;> (first|assumption|omega|exact Jf aq aq|exact Hr ha oq))|(refine decide_eq_false ?_;rintro ⟨q1,q2,q3,q4⟩;(first|contradiction|omega|exact GP aq aq|exact G2 aq aq|exact Hq (l:=t.names) k oq aq aq|exact Gc (l:=t.names) k oq oq aq aq|exact EL (l:=t.names) k oq oq aq aq)))
def bz (l:List (List UInt8)):aa:=.imm (l.map .str)
@[simp] theorem Jw (k:Nat) (l:List (Int×Bool)):((av iE aa.bool l).all fun e=>e.1.bel k && e.2.bel k)=true:=by
 simp [av,List.all_eq_true]
@[simp] theorem Jr (k:Nat) (l:List (Int×List (List UInt8))):((av iE bz l).all fun e=>e.1.bel k && e.2.bel k)=true:=by
 simp [av,bz,List.all_eq_true]
structure VSt where
 ok:Bool
 pl:List (Int×Bool)
 rw:List (Int×List (List UInt8))
def ku (w:Option (List (List UInt8))) (l:List (List UInt8)):Bool:=match w with
 | none=>true
 | some w=>w==l
def bj (s:VSt) (x:Ty):VSt :=
 if x.kind=6 then ⟨s.ok && fmd x,aI x.n true s.pl,s.rw⟩
 else if x.kind=5∧x.n≠0 then ⟨s.ok && fmd x && ku (ai x.n s.rw) x.names,s.pl,aI x.n x.names s.rw⟩
 else ⟨s.ok && fmd x,s.pl,s.rw⟩
def hpV (u:Ty) (s:VSt):ac:=[.box [.int .i64 u.kind,.str u.name,.int .i64 u.n,.imm (u.names.map .str),.imm (u.kids.map Ty.enc)],.box [.bool s.ok],.map (av iE aa.bool s.pl),.box [.map 2],.map (av iE bz s.rw),.box [.map 4]]
def VSt.sm (s:VSt):Prop:=∀ k l,ai k s.rw=some l→l.length<100000000
noncomputable def c55:Code:=aB Tryz.f55
theorem cV {p:Prop} (h:p:=by simp [aK]):p:=h
theorem zj (t u:Ty) (ok:Bool) (pl:List (Int×Bool)) (rw:List (Int×List (List UInt8))) (hs:t.sz<100000000) (hrw:VSt.sm ⟨ok,pl,rw⟩):ar cx 55 [Ty.v t,.ptr 1 0,.ptr 3 0,.ptr 5 0] [u.bx,.box [.bool (ok)],.map (av iE aa.bool pl),.box [.map 2],.map (av iE bz rw),.box [.map 4]] (fun v h=>v=(.tup [])∧h=hpV u (bj ⟨ok,pl,rw⟩ t)):=by
 refine am (cx:=cx) 49 6 [] Tryz.func55 rfl rfl rfl rfl rfl zq ?_
 show wpA cx 49 6 (at_ c55 []) _ _ _
 apply qZ [(0,Ty.v t),(1,.ptr 1 0),(2,.ptr 3 0),(3,.ptr 5 0)] [u.bx,.box [.bool (ok)],.map (av iE aa.bool pl),.box [.map 2],.map (av iE bz rw),.box [.map 4]]
 apply qW 1 [(1,.ptr 1 0),(2,.ptr 3 0),(3,.ptr 5 0),(4,.ptr 6 0)] [u.bx,.box [.bool (ok)],.map (av iE aa.bool pl),.box [.map 2],.map (av iE bz rw),.box [.map 4],t.bx]
 apply qV 2
 by_cases hb1:(ok)=true
 apply qm [7,8] (hb1)
 apply qr 1
 refine bR (args:=[.agg [.int .i64 (t.kind),.str t.name,.int .i64 (t.n),.imm (t.names.map aa.str),.imm (t.kids.map Ty.enc)]]) kq kq kq kq (tZ t oq) (by simp [Ty.v]) (by simp [Ty.v]) (by simp [Ty.v]) ?_
 apply qR 2 [(1,.ptr 1 0),(2,.ptr 3 0),(3,.ptr 5 0),(4,.ptr 6 0)] [u.bx,.box [.bool (fmd t)],.map (av iE aa.bool pl),.box [.map 2],.map (av iE bz rw),.box [.map 4],t.bx]
 apply qU 3 [(1,.ptr 1 0),(2,.ptr 3 0),(3,.ptr 5 0),(4,.ptr 6 0),(14,.bool ((t.kind)==6))]
 by_cases hb2:(t.kind)=6
 apply qt (beq_iff_eq.2 hb2)
 apply qo
 apply qr 3
 refine qY (dC (o:=2) (ek:=iE) (ev:=aa.bool) (l:=pl) (k:=(t.n)) (x:=true) df kq Eu ty3 rfl kq kq) ?_ ?_ ?_
 apply qe
 refine aM (l:=[]) jq kq cV cV cV ?_ ?_
 refine Eq.trans (b:=[u.bx,.box [.bool (fmd t)],.map (av iE aa.bool (aI (t.n) true pl)),.box [.map 2],.map (av iE bz rw),.box [.map 4]]) kq ?_
 · simp [hpV,bj,ku, *]
 rotate_left
 iterate 6 kernel_rfl
 apply qf (beq_eq_false_iff_ne.2 hb2)
 apply qV 4
 by_cases hb3:(t.kind)=5
 apply qm [20,21] (beq_iff_eq.2 hb3)
 apply qR 4 [(1,.ptr 1 0),(3,.ptr 5 0),(4,.ptr 6 0),(25,.bool ((t.n) != 0))] [u.bx,.box [.bool (fmd t)],.map (av iE aa.bool pl),.box [.map 2],.map (av iE bz rw),.box [.map 4],t.bx]
 by_cases hb4:(t.n)=0
 refine qf (x:=((t.n) != 0)) (bne_eq_false_iff_eq.2 hb4) ?_ ?_
 apply qk
 refine aM (l:=[]) jq kq cV cV cV ?_ ?_
 refine Eq.trans (b:=[u.bx,.box [.bool (fmd t)],.map (av iE aa.bool pl),.box [.map 2],.map (av iE bz rw),.box [.map 4]]) kq ?_
 · simp [hpV,bj,ku, *]
 rotate_left
 iterate 2 kernel_rfl
 refine qt (x:=((t.n) != 0)) (bne_iff_ne.2 hb4) ?_ ?_
 apply qV 3
 rcases hm5:ai (t.n) rw with _|x5
 refine qy (eO (ok:=true) (o:=4) (ek:=iE) (ev:=bz) (l:=rw) (k:=(t.n)) df hm5 kq qM ty3 rfl bi kq) ?_ ?_ ?_
 apply qR 5 [(1,.ptr 1 0),(3,.ptr 5 0),(4,.ptr 6 0),(5,.full []),(6,.bool false)] [u.bx,.box [.bool (fmd t)],.map (av iE aa.bool pl),.box [.map 2],.map (av iE bz rw),.box [.map 4],t.bx]
 apply qV 2
 by_cases hb6:(fmd t)=true
 apply qm [33,34] (hb6)
 apply qR 10 [(3,.ptr 5 0),(4,.ptr 6 0)] [u.bx,.box [.bool true],.map (av iE aa.bool pl),.box [.map 2],.map (av iE bz rw),.box [.map 4],t.bx]
 apply qo
 apply qr 5
 refine qY (dC (o:=4) (ek:=iE) (ev:=bz) (l:=rw) (k:=(t.n)) (x:=t.names) df kq qM ty3 rfl kq kq) ?_ ?_ ?_
 apply qe
 refine aM (l:=[]) jq kq cV cV cV ?_ ?_
 refine Eq.trans (b:=[u.bx,.box [.bool true],.map (av iE aa.bool pl),.box [.map 2],.map (av iE bz (aI (t.n) t.names rw)),.box [.map 4]]) kq ?_
 · simp [hpV,bj,ku, *]
 rotate_left
 iterate 7 kernel_rfl
 apply qm [33,34] (Bool.eq_false_iff.2 hb6)
 apply qR 10 [(3,.ptr 5 0),(4,.ptr 6 0)] [u.bx,.box [.bool false],.map (av iE aa.bool pl),.box [.map 2],.map (av iE bz rw),.box [.map 4],t.bx]
 apply qo
 apply qr 5
 refine qY (dC (o:=4) (ek:=iE) (ev:=bz) (l:=rw) (k:=(t.n)) (x:=t.names) df kq qM ty3 rfl kq kq) ?_ ?_ ?_
 apply qe
 refine aM (l:=[]) jq kq cV cV cV ?_ ?_
 refine Eq.trans (b:=[u.bx,.box [.bool false],.map (av iE aa.bool pl),.box [.map 2],.map (av iE bz (aI (t.n) t.names rw)),.box [.map 4]]) kq ?_
 · simp [hpV,bj,ku, *]
 rotate_left
 iterate 11 kernel_rfl
 refine qy (cg (ok:=true) (o:=4) (ek:=iE) (ev:=bz) (l:=rw) (k:=(t.n)) (x:=x5) df hm5 kq qM ty3 rfl bi kq) ?_ ?_ ?_
 apply qR 5 [(1,.ptr 1 0),(3,.ptr 5 0),(4,.ptr 6 0),(5,.imm (x5.map aa.str)),(6,.bool true)] [u.bx,.box [.bool (fmd t)],.map (av iE aa.bool pl),.box [.map 2],.map (av iE bz rw),.box [.map 4],t.bx]
 apply qV 2
 by_cases hb7:(fmd t)=true
 apply qm [33,34] (hb7)
 apply qr 6
 refine bR (args:=[.imm (x5.map aa.str),.imm (t.names.map aa.str)]) kq kq kq kq (jh x5 t.names (by exact Nat.lt_trans (hrw _ _ aq) dq)) (by simp [Ty.v]) (by simp [Ty.v]) (by simp [Ty.v]) ?_
 apply qR 3 [(3,.ptr 5 0),(4,.ptr 6 0)] [u.bx,.box [.bool (x5==t.names)],.map (av iE aa.bool pl),.box [.map 2],.map (av iE bz rw),.box [.map 4],t.bx]
 apply qo
 apply qr 5
 refine qY (dC (o:=4) (ek:=iE) (ev:=bz) (l:=rw) (k:=(t.n)) (x:=t.names) df kq qM ty3 rfl kq kq) ?_ ?_ ?_
 apply qe
 refine aM (l:=[]) jq kq cV cV cV ?_ ?_
 refine Eq.trans (b:=[u.bx,.box [.bool (x5==t.names)],.map (av iE aa.bool pl),.box [.map 2],.map (av iE bz (aI (t.n) t.names rw)),.box [.map 4]]) kq ?_
 · simp [hpV,bj,ku, *]
 rotate_left
 iterate 8 kernel_rfl
 apply qm [33,34] (Bool.eq_false_iff.2 hb7)
 apply qR 10 [(3,.ptr 5 0),(4,.ptr 6 0)] [u.bx,.box [.bool false],.map (av iE aa.bool pl),.box [.map 2],.map (av iE bz rw),.box [.map 4],t.bx]
 apply qo
 apply qr 5
 refine qY (dC (o:=4) (ek:=iE) (ev:=bz) (l:=rw) (k:=(t.n)) (x:=t.names) df kq qM ty3 rfl kq kq) ?_ ?_ ?_
 apply qe
 refine aM (l:=[]) jq kq cV cV cV ?_ ?_
 refine Eq.trans (b:=[u.bx,.box [.bool false],.map (av iE aa.bool pl),.box [.map 2],.map (av iE bz (aI (t.n) t.names rw)),.box [.map 4]]) kq ?_
 · simp [hpV,bj,ku, *]
 rotate_left
 iterate 15 kernel_rfl
 apply qm [20,21] (beq_eq_false_iff_ne.2 hb3)
 apply qR 4 [(1,.ptr 1 0),(3,.ptr 5 0),(4,.ptr 6 0),(25,.bool false)] [u.bx,.box [.bool (fmd t)],.map (av iE aa.bool pl),.box [.map 2],.map (av iE bz rw),.box [.map 4],t.bx]
 refine d5 kq kq ?_
 apply qk
 refine aM (l:=[]) jq kq cV cV cV ?_ ?_
 refine Eq.trans (b:=[u.bx,.box [.bool (fmd t)],.map (av iE aa.bool pl),.box [.map 2],.map (av iE bz rw),.box [.map 4]]) kq ?_
 · simp [hpV,bj,ku, *]
 rotate_left
 iterate 9 kernel_rfl
 apply qm [7,8] (Bool.eq_false_iff.2 hb1)
 apply qR 4 [(1,.ptr 1 0),(2,.ptr 3 0),(3,.ptr 5 0),(4,.ptr 6 0)] [u.bx,.box [.bool false],.map (av iE aa.bool pl),.box [.map 2],.map (av iE bz rw),.box [.map 4],t.bx]
 apply qU 3 [(1,.ptr 1 0),(2,.ptr 3 0),(3,.ptr 5 0),(4,.ptr 6 0),(14,.bool ((t.kind)==6))]
 by_cases hb8:(t.kind)=6
 apply qt (beq_iff_eq.2 hb8)
 apply qo
 apply qr 3
 refine qY (dC (o:=2) (ek:=iE) (ev:=aa.bool) (l:=pl) (k:=(t.n)) (x:=true) df kq Eu ty3 rfl kq kq) ?_ ?_ ?_
 apply qe
 refine aM (l:=[]) jq kq cV cV cV ?_ ?_
 refine Eq.trans (b:=[u.bx,.box [.bool false],.map (av iE aa.bool (aI (t.n) true pl)),.box [.map 2],.map (av iE bz rw),.box [.map 4]]) kq ?_
 · simp [hpV,bj,ku, *]
 rotate_left
 iterate 6 kernel_rfl
 apply qf (beq_eq_false_iff_ne.2 hb8)
 apply qV 4
 by_cases hb9:(t.kind)=5
 apply qm [20,21] (beq_iff_eq.2 hb9)
 apply qR 4 [(1,.ptr 1 0),(3,.ptr 5 0),(4,.ptr 6 0),(25,.bool ((t.n) != 0))] [u.bx,.box [.bool false],.map (av iE aa.bool pl),.box [.map 2],.map (av iE bz rw),.box [.map 4],t.bx]
 by_cases hb10:(t.n)=0
 refine qf (x:=((t.n) != 0)) (bne_eq_false_iff_eq.2 hb10) ?_ ?_
 apply qk
 refine aM (l:=[]) jq kq cV cV cV ?_ ?_
 refine Eq.trans (b:=[u.bx,.box [.bool false],.map (av iE aa.bool pl),.box [.map 2],.map (av iE bz rw),.box [.map 4]]) kq ?_
 · simp [hpV,bj,ku, *]
 rotate_left
 iterate 2 kernel_rfl
 refine qt (x:=((t.n) != 0)) (bne_iff_ne.2 hb10) ?_ ?_
 apply qV 3
 rcases hm11:ai (t.n) rw with _|x11
 refine qy (eO (ok:=true) (o:=4) (ek:=iE) (ev:=bz) (l:=rw) (k:=(t.n)) df hm11 kq qM ty3 rfl bi kq) ?_ ?_ ?_
 apply qR 5 [(1,.ptr 1 0),(3,.ptr 5 0),(4,.ptr 6 0),(5,.full []),(6,.bool false)] [u.bx,.box [.bool false],.map (av iE aa.bool pl),.box [.map 2],.map (av iE bz rw),.box [.map 4],t.bx]
 apply qU 12 [(3,.ptr 5 0),(4,.ptr 6 0)]
 apply qo
 apply qr 5
 refine qY (dC (o:=4) (ek:=iE) (ev:=bz) (l:=rw) (k:=(t.n)) (x:=t.names) df kq qM ty3 rfl kq kq) ?_ ?_ ?_
 apply qe
 refine aM (l:=[]) jq kq cV cV cV ?_ ?_
 refine Eq.trans (b:=[u.bx,.box [.bool false],.map (av iE aa.bool pl),.box [.map 2],.map (av iE bz (aI (t.n) t.names rw)),.box [.map 4]]) kq ?_
 · simp [hpV,bj,ku, *]
 rotate_left
 iterate 9 kernel_rfl
 refine qy (cg (ok:=true) (o:=4) (ek:=iE) (ev:=bz) (l:=rw) (k:=(t.n)) (x:=x11) df hm11 kq qM ty3 rfl bi kq) ?_ ?_ ?_
 apply qR 5 [(1,.ptr 1 0),(3,.ptr 5 0),(4,.ptr 6 0),(5,.imm (x11.map aa.str)),(6,.bool true)] [u.bx,.box [.bool false],.map (av iE aa.bool pl),.box [.map 2],.map (av iE bz rw),.box [.map 4],t.bx]
 apply qU 12 [(3,.ptr 5 0),(4,.ptr 6 0)]
 apply qo
 apply qr 5
 refine qY (dC (o:=4) (ek:=iE) (ev:=bz) (l:=rw) (k:=(t.n)) (x:=t.names) df kq qM ty3 rfl kq kq) ?_ ?_ ?_
 apply qe
 refine aM (l:=[]) jq kq cV cV cV ?_ ?_
 refine Eq.trans (b:=[u.bx,.box [.bool false],.map (av iE aa.bool pl),.box [.map 2],.map (av iE bz (aI (t.n) t.names rw)),.box [.map 4]]) kq ?_
 · simp [hpV,bj,ku, *]
 rotate_left
 iterate 13 kernel_rfl
 apply qm [20,21] (beq_eq_false_iff_ne.2 hb9)
 apply qR 4 [(1,.ptr 1 0),(3,.ptr 5 0),(4,.ptr 6 0),(25,.bool false)] [u.bx,.box [.bool false],.map (av iE aa.bool pl),.box [.map 2],.map (av iE bz rw),.box [.map 4],t.bx]
 refine d5 kq kq ?_
 apply qk
 refine aM (l:=[]) jq kq cV cV cV ?_ ?_
 refine Eq.trans (b:=[u.bx,.box [.bool false],.map (av iE aa.bool pl),.box [.map 2],.map (av iE bz rw),.box [.map 4]]) kq ?_
 · simp [hpV,bj,ku, *]
 rotate_left
 iterate 11 kernel_rfl
 all_goals
  simp [af.belO,hpV,Ty.v]
mutual
def bA:VSt→Ty→VSt
 | s,.mk k x n l ks=>if k=5 then bj (aZ s ks) (.mk k x n l ks) else aZ (bj s (.mk k x n l ks)) ks
def aZ:VSt→List Ty→VSt
 | s,[]=>s
 | s,t::l=>aZ (bA s t) l
end
theorem wl (s:VSt) (t:Ty) (h:t.kind=5):bA s t=bj (aZ s t.kids) t:=by cases t;simp only [Ty.kind] at h;simp only [bA,if_pos h,Ty.kids]
theorem wg (s:VSt) (t:Ty) (h:¬ t.kind=5):bA s t=aZ (bj s t) t.kids:=by cases t;simp only [Ty.kind] at h;simp only [bA,if_neg h,Ty.kids]
theorem rM (t:Ty):∀ (l:List Ty) (s:VSt),aZ s (l++[t])=bA (aZ s l) t
 | [],s=>rfl
 | x::l,s=>by simp only [List.cons_append,aZ,rM t l]
theorem eB (l:List Ty) (k:Nat) (h:k<l.length):l.take (k+1)=l.take k++[l.getD k Ty.zero]:=by
 rw [List.take_succ_eq_append_getElem h,List.getD_eq_getElem?_getD,List.getElem?_eq_getElem h];rfl
theorem yl (s:VSt) (l:List Ty) (k:Nat) (h:k<l.length):aZ s (l.take (k+1))=bA (aZ s (l.take k)) (l.getD k Ty.zero):=by
 rw [eB l k h,rM]
theorem aP {κ α:Type} [DecidableEq κ] (k k':κ) (v:α):∀ l:List (κ×α),ai k (aI k' v l)=if k=k' then some v else ai k l
 | []=>by simp [aI,ai]
 | p::l=>by
  simp only [aI]
  by_cases e:k'=p.1
  · rw [if_pos e];simp only [ai]
    by_cases e2:k=k'
    · rw [if_pos e2,if_pos e2]
    · rw [if_neg e2,if_neg e2,if_neg (by rw [← e];exact e2)]
  · rw [if_neg e];simp only [ai,aP k k' v l]
    by_cases e2:k=p.1
    · rw [if_pos e2,if_pos e2,if_neg (by rintro rfl;exact e e2)]
    · rw [if_neg e2,if_neg e2]
theorem uB {s:VSt} (hs:s.sm) {t:Ty} (ht:t.sz<100000000):(bj s t).sm:=by
 intro k l h
 unfold bj at h
 split at h
 · exact hs k l h
 · split at h
   · simp only [aP] at h
     split at h
     · cases h;have:=bP t;omega
     · exact hs k l h
   · exact hs k l h
mutual
theorem HG:∀ (t:Ty) (s:VSt),s.sm→t.sz<100000000→(bA s t).sm
 | .mk k x n l ks,s,hs,ht=>by
  have hk:Ty.szL ks<100000000:=by simp only [Ty.sz] at ht;omega
  simp only [bA]
  split
  · exact uB (pn ks s hs hk) ht
  · exact pn ks _ (uB hs ht) hk
theorem pn:∀ (l:List Ty) (s:VSt),s.sm→Ty.szL l<100000000→(aZ s l).sm
 | [],s,hs,_=>hs
 | t::l,s,hs,ht=>by
  simp only [Ty.szL] at ht
  exact pn l _ (HG t s hs oq) oq
end
theorem iv:∀ (l:List Ty) (k:Nat),Ty.szL (l.take k)≤Ty.szL l
 | [],k=>by simp
 | t::l,0=>by simp [Ty.szL]
 | t::l,k+1=>by have:=iv l k;simp only [List.take_succ_cons,Ty.szL];omega
theorem tN (t:Ty) (s:VSt) (k:Nat) (hs:s.sm) (ht:t.sz<100000000):(aZ s (t.kids.take k)).sm:=pn _ _ hs (by have:=iv t.kids k;have:=gT t;omega)
theorem oh (t u:Ty) (s:VSt) (hs:t.sz<100000000) (hm:s.sm):ar cx 55 [t.v,.ptr 1 0,.ptr 3 0,.ptr 5 0] (hpV u s) (fun v h=>v=.tup []∧h=hpV u (bj s t)):=zj t u s.ok s.pl s.rw hs hm
noncomputable def c54:Code:=aB Tryz.f54
theorem li {p:Prop} (h:p:=by simp [af.belO,hpV,Ty.v]):p:=h
theorem H8 {p:Prop} (h:p:=by exact congrArg (fun q=>hpV u q++[.box [.int .i64 t.kind,.str t.name,.int .i64 t.n,.imm (t.names.map .str),.imm (t.kids.map Ty.enc)]]) (yl _ t.kids k oq).symm):p:=h
theorem xt (t u:Ty) (s:VSt) (hs:t.sz<100000000) (hm:s.sm):ar cx 54 [Ty.v t,.fn (.func 55) [] [.ptr 1 0,.ptr 3 0,.ptr 5 0]] (hpV u s) (fun v h=>v=(.tup [])∧h=hpV u (bA s t)):=by
 induction hN:t.sz using Nat.strongRecOn generalizing t u s with|_ N ih =>
 have ihV:∀ (t' u:Ty) (s:VSt),t'.sz<t.sz→t'.sz<100000000→s.sm→ar cx 54 [t'.v,.fn (.func 55) [] [.ptr 1 0,.ptr 3 0,.ptr 5 0]] (hpV u s) (fun v h=>v=.tup []∧h=hpV u (bA s t')):=fun t' u s h1 h2 h3=>ih _ (by rw [← hN];exact h1) t' u s h2 h3 rfl
 have hz2:=cF t
 refine am (cx:=cx) 29 6 [] Tryz.func54 rfl rfl rfl rfl rfl zq ?_
 show wpA cx 29 6 (at_ c54 []) _ _ _
 apply qZ [(0,Ty.v t),(1,.fn (.func 55) [] [.ptr 1 0,.ptr 3 0,.ptr 5 0])] [u.bx,.box [.bool (s.ok)],.map (av iE aa.bool s.pl),.box [.map 2],.map (av iE bz s.rw),.box [.map 4]]
 apply qW 1 [(1,.fn (.func 55) [] [.ptr 1 0,.ptr 3 0,.ptr 5 0]),(2,.ptr 6 0)] [u.bx,.box [.bool (s.ok)],.map (av iE aa.bool s.pl),.box [.map 2],.map (av iE bz s.rw),.box [.map 4],t.bx]
 apply ao
 apply qU 3 [(1,.fn (.func 55) [] [.ptr 1 0,.ptr 3 0,.ptr 5 0]),(2,.ptr 6 0),(8,.bool ((t.kind) != 5))]
 by_cases hb1:(t.kind)=5
 refine qf (x:=((t.kind) != 5)) (bne_eq_false_iff_eq.2 hb1) ?_ ?_
 apply qK
 apply qz [(1,.fn (.func 55) [] [.ptr 1 0,.ptr 3 0,.ptr 5 0]),(2,.ptr 6 0)]
 apply ao
 apply qV 2
 refine qy (au (l:=t.kids) (enc:=Ty.enc) kq ba) ?_ ?_ ?_
 apply qR 1 [(1,.fn (.func 55) [] [.ptr 1 0,.ptr 3 0,.ptr 5 0]),(2,.ptr 6 0),(13,.imm (t.kids.map Ty.enc)),(14,nI t.kids.length),(15,.int .i64 0)] [u.bx,.box [.bool (s.ok)],.map (av iE aa.bool s.pl),.box [.map 2],.map (av iE bz s.rw),.box [.map 4],t.bx]
 apply qB 0
 refine bB (σ:=Nat) (fun k=>[(1,.fn (.func 55) [] [.ptr 1 0,.ptr 3 0,.ptr 5 0]),(2,.ptr 6 0),(13,.imm (t.kids.map Ty.enc)),(14,.int .i64 ((t.kids.length:Nat):Int)),(15,.int .i64 ((k:Nat):Int))]) (fun k=>[u.bx,.box [.bool ((aZ s (t.kids.take k)).ok)],.map (av iE aa.bool (aZ s (t.kids.take k)).pl),.box [.map 2],.map (av iE bz (aZ s (t.kids.take k)).rw),.box [.map 4],t.bx]) (fun k=>k≤t.kids.length) (fun k=>t.kids.length - k) 0 kq (by exact Nat.zero_le _) ⟨⟨kq,kq,kq,kq,kq,trivial⟩,by simp [aQ,aa.bel],by simp,kq,by simp [af.belO]⟩ ?_
 rintro k hk
 apply qW 1 [(1,.fn (.func 55) [] [.ptr 1 0,.ptr 3 0,.ptr 5 0]),(2,.ptr 6 0),(13,.imm (t.kids.map Ty.enc)),(14,nI t.kids.length),(15,nI k),(16,.bool (decide (((k:Nat):Int)<((t.kids.length:Nat):Int))))] [u.bx,.box [.bool ((aZ s (t.kids.take k)).ok)],.map (av iE aa.bool (aZ s (t.kids.take k)).pl),.box [.map 2],.map (av iE bz (aZ s (t.kids.take k)).rw),.box [.map 4],t.bx]
 apply ao
 by_cases hb2:((k:Nat):Int)<((t.kids.length:Nat):Int)
 apply qt (decide_eq_true hb2)
 apply qK
 apply qz [(1,.fn (.func 55) [] [.ptr 1 0,.ptr 3 0,.ptr 5 0]),(2,.ptr 6 0),(13,.imm (t.kids.map Ty.enc)),(14,nI t.kids.length),(15,nI k)]
 apply ao
 apply qB 1
 apply qO
 refine qy ((aA (k:=.i64) (l:=t.kids) (enc:=Ty.enc) (i:=((k:Nat):Int)) Ty.zero kq ba bV bk oq oq).trans (congrArg (fun cs=>some (aa.pimm cs 0,_)) (aU (t.kids.getD k Ty.zero)))) ?_ ?_ ?_
 apply qR 3 [(1,.fn (.func 55) [] [.ptr 1 0,.ptr 3 0,.ptr 5 0]),(2,.ptr 6 0),(5,.ptr 7 0),(13,.imm (t.kids.map Ty.enc)),(14,nI t.kids.length),(15,nI k)] [u.bx,.box [.bool ((aZ s (t.kids.take k)).ok)],.map (av iE aa.bool (aZ s (t.kids.take k)).pl),.box [.map 2],.map (av iE bz (aZ s (t.kids.take k)).rw),.box [.map 4],t.bx,(t.kids.getD k Ty.zero).bx]
 apply qo
 apply qr 2
 refine aT (args:=[.agg [.int .i64 ((t.kids.getD k Ty.zero).kind),.str (t.kids.getD k Ty.zero).name,.int .i64 ((t.kids.getD k Ty.zero).n),.imm ((t.kids.getD k Ty.zero).names.map aa.str),.imm ((t.kids.getD k Ty.zero).kids.map Ty.enc)],.fn (.func 55) [] [.ptr 1 0,.ptr 3 0,.ptr 5 0]]) (hs:=[u.bx,.box [.bool ((aZ s (t.kids.take k)).ok)],.map (av iE aa.bool (aZ s (t.kids.take k)).pl),.box [.map 2],.map (av iE bz (aZ s (t.kids.take k)).rw),.box [.map 4]]) (hs':=[u.bx,.box [.bool ((bA (aZ s (t.kids.take k)) (t.kids.getD k Ty.zero)).ok)],.map (av iE aa.bool (bA (aZ s (t.kids.take k)) (t.kids.getD k Ty.zero)).pl),.box [.map 2],.map (av iE bz (bA (aZ s (t.kids.take k)) (t.kids.getD k Ty.zero)).rw),.box [.map 4]]) (aO:=[t.bx,(t.kids.getD k Ty.zero).bx]) kq kq kq kq kq (ihV (t.kids.getD k Ty.zero) u (aZ s (t.kids.take k)) (cu t k oq) (Nat.lt_trans (cu t k oq) hs) (tN t _ _ hm hs)) li li rfl li li kq ?_
 apply qe
 apply aj
 apply ab
 apply qZ [(1,.fn (.func 55) [] [.ptr 1 0,.ptr 3 0,.ptr 5 0]),(2,.ptr 6 0),(13,.imm (t.kids.map Ty.enc)),(14,nI t.kids.length),(15,nI k)] [u.bx,.box [.bool ((bA (aZ s (t.kids.take k)) (t.kids.getD k Ty.zero)).ok)],.map (av iE aa.bool (bA (aZ s (t.kids.take k)) (t.kids.getD k Ty.zero)).pl),.box [.map 2],.map (av iE bz (bA (aZ s (t.kids.take k)) (t.kids.getD k Ty.zero)).rw),.box [.map 4],t.bx,(t.kids.getD k Ty.zero).bx]
 apply qo
 refine qy (aN (a:=((k:Nat):Int)) (b:=1) kq oq oq) ?_ ?_ ?_
 apply qr 1
 apply qe
 refine ab ⟨k+1,?_,?_,⟨⟨kq,kq,kq,kq,kq,trivial⟩,by simp [aQ,aa.bel],by simp,(Eq.trans (b:=[u.bx,.box [.bool ((bA (aZ s (t.kids.take k)) (t.kids.getD k Ty.zero)).ok)],.map (av iE aa.bool (bA (aZ s (t.kids.take k)) (t.kids.getD k Ty.zero)).pl),.box [.map 2],.map (av iE bz (bA (aZ s (t.kids.take k)) (t.kids.getD k Ty.zero)).rw),.box [.map 4],t.bx]) kq H8),by simp [af.belO]⟩⟩
 · omega
 · omega
 iterate 19 kernel_rfl
 apply qf (decide_eq_false hb2)
 refine bn 0 kq kq ?_
 apply ae
 apply ae
 apply ay
 apply ab
 apply qz [(1,.fn (.func 55) [] [.ptr 1 0,.ptr 3 0,.ptr 5 0]),(2,.ptr 6 0)]
 apply qU 3 [(1,.fn (.func 55) [] [.ptr 1 0,.ptr 3 0,.ptr 5 0]),(2,.ptr 6 0),(25,.bool ((t.kind)==5))]
 apply qt (beq_iff_eq.2 hb1)
 apply qo
 apply qr 2
 refine aT (args:=[.agg [.int .i64 (t.kind),.str t.name,.int .i64 (t.n),.imm (t.names.map aa.str),.imm (t.kids.map Ty.enc)],.ptr 1 0,.ptr 3 0,.ptr 5 0]) (hs:=[u.bx,.box [.bool ((aZ s (t.kids.take k)).ok)],.map (av iE aa.bool (aZ s (t.kids.take k)).pl),.box [.map 2],.map (av iE bz (aZ s (t.kids.take k)).rw),.box [.map 4]]) (hs':=[u.bx,.box [.bool ((bj (aZ s (t.kids.take k)) t).ok)],.map (av iE aa.bool (bj (aZ s (t.kids.take k)) t).pl),.box [.map 2],.map (av iE bz (bj (aZ s (t.kids.take k)) t).rw),.box [.map 4]]) (aO:=[t.bx]) kq kq kq kq kq (oh t u (aZ s (t.kids.take k)) oq (tN t _ _ hm hs)) li li rfl li li kq ?_
 apply qe
 refine aM (l:=[]) jq kq cV cV cV ?_ ?_
 refine Eq.trans (b:=[u.bx,.box [.bool ((bj (aZ s (t.kids.take k)) t).ok)],.map (av iE aa.bool (bj (aZ s (t.kids.take k)) t).pl),.box [.map 2],.map (av iE bz (bj (aZ s (t.kids.take k)) t).rw),.box [.map 4]]) kq ?_
 rotate_left
 · simp [af.belO,hpV,Ty.v]
 iterate 19 kernel_rfl
 refine qt (x:=((t.kind) != 5)) (bne_iff_ne.2 hb1) ?_ ?_
 apply qo
 apply qr 2
 refine aT (args:=[.agg [.int .i64 (t.kind),.str t.name,.int .i64 (t.n),.imm (t.names.map aa.str),.imm (t.kids.map Ty.enc)],.ptr 1 0,.ptr 3 0,.ptr 5 0]) (hs:=[u.bx,.box [.bool (s.ok)],.map (av iE aa.bool s.pl),.box [.map 2],.map (av iE bz s.rw),.box [.map 4]]) (hs':=[u.bx,.box [.bool ((bj s t).ok)],.map (av iE aa.bool (bj s t).pl),.box [.map 2],.map (av iE bz (bj s t).rw),.box [.map 4]]) (aO:=[t.bx]) kq kq kq kq kq (oh t u s oq hm) li li rfl li li kq ?_
 apply qN [(1,.fn (.func 55) [] [.ptr 1 0,.ptr 3 0,.ptr 5 0]),(2,.ptr 6 0)] [u.bx,.box [.bool ((bj s t).ok)],.map (av iE aa.bool (bj s t).pl),.box [.map 2],.map (av iE bz (bj s t).rw),.box [.map 4],t.bx]
 apply ao
 apply qV 2
 refine qy (au (l:=t.kids) (enc:=Ty.enc) kq ba) ?_ ?_ ?_
 apply qR 1 [(1,.fn (.func 55) [] [.ptr 1 0,.ptr 3 0,.ptr 5 0]),(2,.ptr 6 0),(13,.imm (t.kids.map Ty.enc)),(14,nI t.kids.length),(15,.int .i64 0)] [u.bx,.box [.bool ((bj s t).ok)],.map (av iE aa.bool (bj s t).pl),.box [.map 2],.map (av iE bz (bj s t).rw),.box [.map 4],t.bx]
 apply qB 0
 refine bB (σ:=Nat) (fun k=>[(1,.fn (.func 55) [] [.ptr 1 0,.ptr 3 0,.ptr 5 0]),(2,.ptr 6 0),(13,.imm (t.kids.map Ty.enc)),(14,.int .i64 ((t.kids.length:Nat):Int)),(15,.int .i64 ((k:Nat):Int))]) (fun k=>[u.bx,.box [.bool ((aZ (bj s t) (t.kids.take k)).ok)],.map (av iE aa.bool (aZ (bj s t) (t.kids.take k)).pl),.box [.map 2],.map (av iE bz (aZ (bj s t) (t.kids.take k)).rw),.box [.map 4],t.bx]) (fun k=>k≤t.kids.length) (fun k=>t.kids.length - k) 0 kq (by exact Nat.zero_le _) ⟨⟨kq,kq,kq,kq,kq,trivial⟩,by simp [aQ,aa.bel],by simp,kq,by simp [af.belO]⟩ ?_
 rintro k hk
 apply qW 1 [(1,.fn (.func 55) [] [.ptr 1 0,.ptr 3 0,.ptr 5 0]),(2,.ptr 6 0),(13,.imm (t.kids.map Ty.enc)),(14,nI t.kids.length),(15,nI k),(16,.bool (decide (((k:Nat):Int)<((t.kids.length:Nat):Int))))] [u.bx,.box [.bool ((aZ (bj s t) (t.kids.take k)).ok)],.map (av iE aa.bool (aZ (bj s t) (t.kids.take k)).pl),.box [.map 2],.map (av iE bz (aZ (bj s t) (t.kids.take k)).rw),.box [.map 4],t.bx]
 apply ao
 by_cases hb4:((k:Nat):Int)<((t.kids.length:Nat):Int)
 apply qt (decide_eq_true hb4)
 apply qK
 apply qz [(1,.fn (.func 55) [] [.ptr 1 0,.ptr 3 0,.ptr 5 0]),(2,.ptr 6 0),(13,.imm (t.kids.map Ty.enc)),(14,nI t.kids.length),(15,nI k)]
 apply ao
 apply qB 1
 apply qO
 refine qy ((aA (k:=.i64) (l:=t.kids) (enc:=Ty.enc) (i:=((k:Nat):Int)) Ty.zero kq ba bV bk oq oq).trans (congrArg (fun cs=>some (aa.pimm cs 0,_)) (aU (t.kids.getD k Ty.zero)))) ?_ ?_ ?_
 apply qR 3 [(1,.fn (.func 55) [] [.ptr 1 0,.ptr 3 0,.ptr 5 0]),(2,.ptr 6 0),(5,.ptr 7 0),(13,.imm (t.kids.map Ty.enc)),(14,nI t.kids.length),(15,nI k)] [u.bx,.box [.bool ((aZ (bj s t) (t.kids.take k)).ok)],.map (av iE aa.bool (aZ (bj s t) (t.kids.take k)).pl),.box [.map 2],.map (av iE bz (aZ (bj s t) (t.kids.take k)).rw),.box [.map 4],t.bx,(t.kids.getD k Ty.zero).bx]
 apply qo
 apply qr 2
 refine aT (args:=[.agg [.int .i64 ((t.kids.getD k Ty.zero).kind),.str (t.kids.getD k Ty.zero).name,.int .i64 ((t.kids.getD k Ty.zero).n),.imm ((t.kids.getD k Ty.zero).names.map aa.str),.imm ((t.kids.getD k Ty.zero).kids.map Ty.enc)],.fn (.func 55) [] [.ptr 1 0,.ptr 3 0,.ptr 5 0]]) (hs:=[u.bx,.box [.bool ((aZ (bj s t) (t.kids.take k)).ok)],.map (av iE aa.bool (aZ (bj s t) (t.kids.take k)).pl),.box [.map 2],.map (av iE bz (aZ (bj s t) (t.kids.take k)).rw),.box [.map 4]]) (hs':=[u.bx,.box [.bool ((bA (aZ (bj s t) (t.kids.take k)) (t.kids.getD k Ty.zero)).ok)],.map (av iE aa.bool (bA (aZ (bj s t) (t.kids.take k)) (t.kids.getD k Ty.zero)).pl),.box [.map 2],.map (av iE bz (bA (aZ (bj s t) (t.kids.take k)) (t.kids.getD k Ty.zero)).rw),.box [.map 4]]) (aO:=[t.bx,(t.kids.getD k Ty.zero).bx]) kq kq kq kq kq (ihV (t.kids.getD k Ty.zero) u (aZ (bj s t) (t.kids.take k)) (cu t k oq) (Nat.lt_trans (cu t k oq) hs) (tN t _ _ (uB hm hs) hs)) li li rfl li li kq ?_
 apply qe
 apply aj
 apply ab
 apply qZ [(1,.fn (.func 55) [] [.ptr 1 0,.ptr 3 0,.ptr 5 0]),(2,.ptr 6 0),(13,.imm (t.kids.map Ty.enc)),(14,nI t.kids.length),(15,nI k)] [u.bx,.box [.bool ((bA (aZ (bj s t) (t.kids.take k)) (t.kids.getD k Ty.zero)).ok)],.map (av iE aa.bool (bA (aZ (bj s t) (t.kids.take k)) (t.kids.getD k Ty.zero)).pl),.box [.map 2],.map (av iE bz (bA (aZ (bj s t) (t.kids.take k)) (t.kids.getD k Ty.zero)).rw),.box [.map 4],t.bx,(t.kids.getD k Ty.zero).bx]
 apply qo
 refine qy (aN (a:=((k:Nat):Int)) (b:=1) kq oq oq) ?_ ?_ ?_
 apply qr 1
 apply qe
 refine ab ⟨k+1,?_,?_,⟨⟨kq,kq,kq,kq,kq,trivial⟩,by simp [aQ,aa.bel],by simp,(Eq.trans (b:=[u.bx,.box [.bool ((bA (aZ (bj s t) (t.kids.take k)) (t.kids.getD k Ty.zero)).ok)],.map (av iE aa.bool (bA (aZ (bj s t) (t.kids.take k)) (t.kids.getD k Ty.zero)).pl),.box [.map 2],.map (av iE bz (bA (aZ (bj s t) (t.kids.take k)) (t.kids.getD k Ty.zero)).rw),.box [.map 4],t.bx]) kq H8),by simp [af.belO]⟩⟩
 · omega
 · omega
 iterate 19 kernel_rfl
 apply qf (decide_eq_false hb4)
 refine bn 0 kq kq ?_
 apply ae
 apply ae
 apply ay
 apply ab
 apply qz [(1,.fn (.func 55) [] [.ptr 1 0,.ptr 3 0,.ptr 5 0]),(2,.ptr 6 0)]
 apply qU 3 [(1,.fn (.func 55) [] [.ptr 1 0,.ptr 3 0,.ptr 5 0]),(2,.ptr 6 0),(25,.bool ((t.kind)==5))]
 apply qf (beq_eq_false_iff_ne.2 hb1)
 apply qk
 refine aM (l:=[]) jq kq cV cV cV ?_ ?_
 refine Eq.trans (b:=[u.bx,.box [.bool ((aZ (bj s t) (t.kids.take k)).ok)],.map (av iE aa.bool (aZ (bj s t) (t.kids.take k)).pl),.box [.map 2],.map (av iE bz (aZ (bj s t) (t.kids.take k)).rw),.box [.map 4]]) kq ?_
 rotate_left
 · simp [af.belO,hpV,Ty.v]
 iterate 22 kernel_rfl
 all_goals
  refine congrArg (hpV u) ?_
  first|rw [wg s t aq,List.take_of_length_le oq]|rw [wl s t aq,List.take_of_length_le oq]
def VSt.init:VSt:=⟨true,[],[]⟩
theorem FI:VSt.init.sm:=fun k l h=>by simp [VSt.init,ai] at h
def Ck (s:VSt) (j:Nat):Bool:=(ai (s.rw.getD j ((0:Int),([]:List (List UInt8)))).1 s.pl).getD false
def okL (s:VSt) (lf:List Nat):Bool:=s.ok && (List.range s.rw.length).all fun j=>lf.contains j || !(Ck s j)
theorem CL (s:VSt):okL s (List.range s.rw.length)=s.ok:=by
 have:((List.range s.rw.length).all fun j=>(List.range s.rw.length).contains j || !(Ck s j))=true:=by
  rw [List.all_eq_true];intro j hj;rw [List.contains_iff_mem.2 hj];rfl
 rw [okL,this,Bool.and_true]
theorem qI (s:VSt) (lf:List Nat) (i:Nat) (hi:i∈lf) (hlt:i<s.rw.length):okL s (lf.filter (fun j=>!(Nat.beq j i)))=(okL s lf && !(Ck s i)):=by
 rw [Bool.eq_iff_iff]
 simp only [okL,Bool.and_eq_true,List.all_eq_true,Bool.or_eq_true,List.contains_iff_mem,List.mem_filter,List.mem_range,Bool.not_eq_true']
 constructor
 · rintro ⟨h1,h2⟩
   refine ⟨⟨h1,fun j hj=>?_⟩,?_⟩
   · rcases h2 j hj with h|h
     · exact .inl h.1
     · exact .inr h
   · rcases h2 i hlt with h|h
     · have:=h.2;rw [Nat.beq_refl] at this;cases this
     · exact h
 · rintro ⟨⟨h1,h2⟩,h3⟩
   refine ⟨h1,fun j hj=>?_⟩
   by_cases e:j=i
   · subst e;exact .inr h3
   · rcases h2 j hj with h|h
     · exact .inl ⟨h,nbf e⟩
     · exact .inr h
theorem BM (lf:List Nat) (i:Nat) (hi:i∈lf):(lf.filter (fun j=>!(Nat.beq j i))).length<lf.length:=by
 rcases Nat.lt_or_ge (lf.filter (fun j=>!(Nat.beq j i))).length lf.length with h|h
 · exact h
 · have he:lf.filter (fun j=>!(Nat.beq j i))=lf:=List.Sublist.eq_of_length_le List.filter_sublist h
   rw [← he] at hi
   have:=(List.mem_filter.1 hi).2
   rw [Nat.beq_refl] at this;cases this
theorem IQ {s:VSt} {lf:List Nat} {i:Nat} (hi:i∈lf) (hlt:i<s.rw.length) (hm:ai (s.rw.getD i ((0:Int),([]:List (List UInt8)))).1 s.pl=none):okL s (lf.filter (fun j=>!(Nat.beq j i)))=okL s lf:=by
 rw [qI s lf i hi hlt,Ck,hm];simp
theorem Ii {s:VSt} {lf:List Nat} {i:Nat} {b:Bool} (hi:i∈lf) (hlt:i<s.rw.length) (hm:ai (s.rw.getD i ((0:Int),([]:List (List UInt8)))).1 s.pl=some b):okL s (lf.filter (fun j=>!(Nat.beq j i)))=(okL s lf && !b):=by
 rw [qI s lf i hi hlt,Ck,hm];simp
theorem I2 {s:VSt} {lf:List Nat} {i:Nat} (hi:i∈lf) (hlt:i<s.rw.length) (h:¬ okL s lf=true):okL s (lf.filter (fun j=>!(Nat.beq j i)))=false:=by
 rw [qI s lf i hi hlt,Bool.eq_false_iff.2 h];rfl
def fC (t:Ty):Bool:=okL (bA VSt.init t) []
noncomputable def c14:Code:=aB Tryz.f14
theorem GN {p:Prop} (h:p:=by (try dsimp only);first|(rw [I2 hii1 hlti1 aq];done)|(rw [IQ hii1 hlti1 aq];simp only [*];done)|(rw [Ii hii1 hlti1 aq];simp only [*];simp;done)):p:=h
theorem EO {p:Prop} (h:p:=by simp [af.belO,hpV,Ty.v]):p:=h
theorem wA (t:Ty) (hs:t.sz<100000000):aC cx 14 [Ty.v t] (.bool (fC t)):=by
 refine am (cx:=cx) 26 0 [(ResultVar.tmp 2)] Tryz.func14 rfl rfl rfl rfl rfl zq ?_
 show wpA cx 26 0 (at_ c14 []) _ _ _
 apply qZ [(0,Ty.v t)] []
 apply qW 2 [(1,.ptr 0 0)] [t.bx]
 apply qW 2 [(1,.ptr 0 0),(3,.ptr 1 0)] [t.bx,.box [.bool true]]
 apply qW 3 [(1,.ptr 0 0),(3,.ptr 1 0),(4,.ptr 3 0)] [t.bx,.box [.bool true],.map (av iE aa.bool ([]:List (Int×Bool))),.box [.map 2]]
 apply qW 3 [(1,.ptr 0 0),(3,.ptr 1 0),(4,.ptr 3 0),(5,.ptr 5 0)] [t.bx,.box [.bool true],.map (av iE aa.bool ([]:List (Int×Bool))),.box [.map 2],.map (av iE bz ([]:List (Int×List (List UInt8)))),.box [.map 4]]
 apply qV 2
 refine aT (args:=[.agg [.int .i64 (t.kind),.str t.name,.int .i64 (t.n),.imm (t.names.map aa.str),.imm (t.kids.map Ty.enc)],.fn (.func 55) [] [.ptr 1 0,.ptr 3 0,.ptr 5 0]]) (hs:=[t.bx,.box [.bool true],.map (av iE aa.bool ([]:List (Int×Bool))),.box [.map 2],.map (av iE bz ([]:List (Int×List (List UInt8)))),.box [.map 4]]) (hs':=[t.bx,.box [.bool ((bA VSt.init t).ok)],.map (av iE aa.bool (bA VSt.init t).pl),.box [.map 2],.map (av iE bz (bA VSt.init t).rw),.box [.map 4]]) (aO:=[]) kq kq kq kq kq (xt t t VSt.init oq FI) EO EO rfl EO EO kq ?_
 apply qN [(3,.ptr 1 0),(4,.ptr 3 0),(5,.ptr 5 0)] [t.bx,.box [.bool ((bA VSt.init t).ok)],.map (av iE aa.bool (bA VSt.init t).pl),.box [.map 2],.map (av iE bz (bA VSt.init t).rw),.box [.map 4]]
 apply ao
 apply qV 1
 refine G7 (ek:=iE) (ev:=bz) (l:=(bA VSt.init t).rw) (m:=4) kq kq kq qM kq ?_
 apply qN [(3,.ptr 1 0),(4,.ptr 3 0),(13,.itr 6)] [t.bx,.box [.bool ((bA VSt.init t).ok)],.map (av iE aa.bool (bA VSt.init t).pl),.box [.map 2],.map (av iE bz (bA VSt.init t).rw),.box [.map 4],.iter 4 ((List.range (bA VSt.init t).rw.length),none)]
 apply qB 0
 refine bB (σ:=(List Nat×Option Nat)) (fun ⟨lf,la⟩=>[(3,.ptr 1 0),(4,.ptr 3 0),(13,.itr 6)]) (fun ⟨lf,la⟩=>[t.bx,.box [.bool (okL (bA VSt.init t) lf)],.map (av iE aa.bool (bA VSt.init t).pl),.box [.map 2],.map (av iE bz (bA VSt.init t).rw),.box [.map 4],.iter 4 (lf,la)]) (fun ⟨lf,la⟩=>True) (fun ⟨lf,la⟩=>lf.length) (List.range (bA VSt.init t).rw.length,none) kq (by trivial) ⟨⟨kq,kq,kq,trivial⟩,by simp [aQ,aa.bel],by simp,(Eq.trans (b:=[t.bx,.box [.bool ((bA VSt.init t).ok)],.map (av iE aa.bool (bA VSt.init t).pl),.box [.map 2],.map (av iE bz (bA VSt.init t).rw),.box [.map 4],.iter 4 ((List.range (bA VSt.init t).rw.length),none)]) kq (by (try dsimp only);rw [CL])),by simp [af.belO]⟩ ?_
 rintro ⟨lf,la⟩ _
 apply qZ [(3,.ptr 1 0),(4,.ptr 3 0),(13,.itr 6)] [t.bx,.box [.bool (okL (bA VSt.init t) lf)],.map (av iE aa.bool (bA VSt.init t).pl),.box [.map 2],.map (av iE bz (bA VSt.init t).rw),.box [.map 4],.iter 4 (lf,la)]
 apply qO
 refine Hh (ek:=iE) (ev:=bz) (l:=(bA VSt.init t).rw) (o:=6) (m:=4) (lf:=lf) (la:=la) ((0:Int),([]:List (List UInt8))) kq kq kq kq kq ?_ ?_
 intro hli1
 apply qR 1 [(3,.ptr 1 0),(4,.ptr 3 0),(13,.itr 6),(15,.bool false)] [t.bx,.box [.bool (okL (bA VSt.init t) lf)],.map (av iE aa.bool (bA VSt.init t).pl),.box [.map 2],.map (av iE bz (bA VSt.init t).rw),.box [.map 4],.iter 4 (lf,la)]
 apply ao
 refine d5 kq kq ?_
 refine bn 0 kq kq ?_
 apply ae
 apply ae
 apply ay
 apply ab
 apply qz [(3,.ptr 1 0)]
 apply qV 2
 apply qT
 refine aL (b:=(okL (bA VSt.init t) lf)) iq kq ?_
 · rw [fC];congr 1
 iterate 5 kernel_rfl
 intro i1 hii1 hlti1
 refine qR 1 [(3,.ptr 1 0),(4,.ptr 3 0),(13,.itr 6),(15,.bool true)] [t.bx,.box [.bool (okL (bA VSt.init t) lf)],.map (av iE aa.bool (bA VSt.init t).pl),.box [.map 2],.map (av iE bz (bA VSt.init t).rw),.box [.map 4],.iter 4 ((lf.filter (fun j=>!(Nat.beq j i1))),(some i1))] ?_ ?_
 apply ao
 refine cw kq kq ?_
 apply qK
 apply qz [(3,.ptr 1 0),(4,.ptr 3 0),(13,.itr 6)]
 apply qB 1
 apply qO
 refine FH (ek:=iE) (ev:=bz) (l:=(bA VSt.init t).rw) (o:=6) (m:=4) (i:=i1) (lf:=(lf.filter (fun j=>!(Nat.beq j i1)))) ((0:Int),([]:List (List UInt8))) kq kq kq kq kq aq ?_
 refine qR 2 [(3,.ptr 1 0),(4,.ptr 3 0),(6,.int .i64 (((bA VSt.init t).rw.getD i1 ((0:Int),([]:List (List UInt8)))).1)),(13,.itr 6)] [t.bx,.box [.bool (okL (bA VSt.init t) lf)],.map (av iE aa.bool (bA VSt.init t).pl),.box [.map 2],.map (av iE bz (bA VSt.init t).rw),.box [.map 4],.iter 4 ((lf.filter (fun j=>!(Nat.beq j i1))),(some i1))] ?_ ?_
 apply qo
 apply qr 2
 by_cases hb2:(okL (bA VSt.init t) lf)=true
 refine gu 18 (.bool (okL (bA VSt.init t) lf)) (.bool true) (gm (kl jO)) kq (congrArg aa.bool (hb2)) ?_
 refine gu 19 (.bool (okL (bA VSt.init t) lf)) (.bool true) (gm (kl jO)) kq (congrArg aa.bool (hb2)) ?_
 apply qr 2
 rcases hm3:ai (((bA VSt.init t).rw.getD i1 ((0:Int),([]:List (List UInt8)))).1) (bA VSt.init t).pl with _|x3
 refine qy (eO (ok:=false) (o:=2) (ek:=iE) (ev:=aa.bool) (l:=(bA VSt.init t).pl) (k:=(((bA VSt.init t).rw.getD i1 ((0:Int),([]:List (List UInt8)))).1)) df hm3 kq Eu ty3 rfl ty4 kq) ?_ ?_ ?_
 apply qr 3
 apply qe
 apply aj
 refine ab ⟨((lf.filter (fun j=>!(Nat.beq j i1))),(some i1)),?_,?_,⟨⟨kq,kq,kq,trivial⟩,by simp [aQ,aa.bel],by simp,(Eq.trans (b:=[t.bx,.box [.bool true],.map (av iE aa.bool (bA VSt.init t).pl),.box [.map 2],.map (av iE bz (bA VSt.init t).rw),.box [.map 4],.iter 4 ((lf.filter (fun j=>!(Nat.beq j i1))),(some i1))]) kq GN),by simp [af.belO]⟩⟩
 rotate_left
 · try dsimp only
   all_goals trivial
 iterate 4 kernel_rfl
 refine qy (cg (ok:=false) (o:=2) (ek:=iE) (ev:=aa.bool) (l:=(bA VSt.init t).pl) (k:=(((bA VSt.init t).rw.getD i1 ((0:Int),([]:List (List UInt8)))).1)) (x:=x3) df hm3 kq Eu ty3 rfl ty4 kq) ?_ ?_ ?_
 apply qr 3
 apply qe
 apply aj
 refine ab ⟨((lf.filter (fun j=>!(Nat.beq j i1))),(some i1)),?_,?_,⟨⟨kq,kq,kq,trivial⟩,by simp [aQ,aa.bel],by simp,(Eq.trans (b:=[t.bx,.box [.bool (!(x3))],.map (av iE aa.bool (bA VSt.init t).pl),.box [.map 2],.map (av iE bz (bA VSt.init t).rw),.box [.map 4],.iter 4 ((lf.filter (fun j=>!(Nat.beq j i1))),(some i1))]) kq GN),by simp [af.belO]⟩⟩
 rotate_left
 · try dsimp only
   all_goals trivial
 iterate 5 kernel_rfl
 refine gu 18 (.bool (okL (bA VSt.init t) lf)) (.bool false) (gm (kl jO)) kq (congrArg aa.bool (Bool.eq_false_iff.2 hb2)) ?_
 refine gu 19 (.bool (okL (bA VSt.init t) lf)) (.bool false) (gm (kl jO)) kq (congrArg aa.bool (Bool.eq_false_iff.2 hb2)) ?_
 apply qr 6
 apply qe
 apply aj
 refine ab ⟨((lf.filter (fun j=>!(Nat.beq j i1))),(some i1)),?_,?_,⟨⟨kq,kq,kq,trivial⟩,by simp [aQ,aa.bel],by simp,(Eq.trans (b:=[t.bx,.box [.bool false],.map (av iE aa.bool (bA VSt.init t).pl),.box [.map 2],.map (av iE bz (bA VSt.init t).rw),.box [.map 4],.iter 4 ((lf.filter (fun j=>!(Nat.beq j i1))),(some i1))]) kq GN),by simp [af.belO]⟩⟩
 rotate_left
 · try dsimp only
   all_goals trivial
 iterate 26 kernel_rfl
 all_goals
  try dsimp only
  exact BM lf _ aq
structure Occ where
 n:Int
 row:Bool
 names:List (List UInt8)
def Occ.zero:Occ:=⟨0,false,[]⟩
def Occ.v (o:Occ):aa:=.agg [.int .i64 o.n,.bool o.row,.imm (o.names.map .str)]
@[simp] theorem F6 (h:ac) (o:Occ):o.v.frz h=o.v:=by simp [Occ.v]
@[simp] theorem Fb (k:Nat) (o:Occ):o.v.bel k=true:=by simp [Occ.v]
@[simp] theorem CE (o:Occ):o.v.owns=[]:=by simp [Occ.v]
@[simp] theorem HK (h:ac) (l:List Occ):bf h (l.map Occ.v)=l.map Occ.v:=dx h (fun o=>F6 h o) l
@[simp] theorem HO (k:Nat) (l:List Occ):bN k (l.map Occ.v)=true:=iw k (fun o=>Fb k o) l
@[simp] theorem GY (l:List Occ):aV (l.map Occ.v)=[]:=fY (fun o=>CE o) l
theorem bo (h:ac) (a b:List aa):bf h (a++b)=bf h a++bf h b:=by rw [cn,cn,cn,List.map_append]
theorem bL (k:Nat):∀ (a b:List aa),bN k (a++b)=(bN k a && bN k b)
 | [],b=>by simp [bN]
 | x::a,b=>by simp only [List.cons_append,bN,bL k a b,Bool.and_assoc]
theorem bh:∀ (a b:List aa),aV (a++b)=aV a++aV b
 | [],b=>rfl
 | x::a,b=>by simp only [List.cons_append,aV,bh a b,List.append_assoc]
mutual
def az:Ty→List Occ
 | .mk k _ n l ks=>((if k=6 then [⟨n,false,[]⟩] else [])++aF ks)++(if k=5∧n≠0 then [⟨n,true,l⟩] else [])
def aF:List Ty→List Occ
 | []=>[]
 | t::l=>az t++aF l
end
def rW (t:Ty):List Occ:=if t.kind=6 then [⟨t.n,false,[]⟩] else []
def rV (t:Ty):List Occ:=if t.kind=5∧t.n≠0 then [⟨t.n,true,t.names⟩] else []
theorem kB (t:Ty):az t=(rW t++aF t.kids)++rV t:=by cases t;simp only [az,rW,rV,Ty.kind,Ty.n,Ty.names,Ty.kids];rfl
theorem pD (t:Ty):∀ l,aF (l++[t])=aF l++az t
 | []=>by simp [aF]
 | x::l=>by simp only [List.cons_append,aF,pD t l,List.append_assoc]
theorem ru (l:List Ty) (k:Nat) (h:k<l.length):aF (l.take (k+1))=aF (l.take k)++az (l.getD k Ty.zero):=by rw [eB l k h,pD]
mutual
theorem mj:∀ t:Ty,(az t).length≤t.sz
 | .mk k x n l ks=>by
  have:=kU ks
  simp only [az,List.length_append,Ty.sz]
  by_cases h6:k=6
  · rw [if_pos h6,if_neg oq];simp;omega
  · rw [if_neg h6];split <;> simp <;> omega
theorem kU:∀ l:List Ty,(aF l).length≤Ty.szL l
 | []=>by simp [aF]
 | t::l=>by have:=mj t;have:=kU l;simp only [aF,List.length_append,Ty.szL];omega
end
theorem lr (t:Ty) (k:Nat):(aF (t.kids.take k)).length≤Ty.szL t.kids:=Nat.le_trans (kU _) (iv _ _)
mutual
def whl:Ty→Bool
 | .mk k x n l ks=>fmd (.mk k x n l ks) && kh ks
def kh:List Ty→Bool
 | []=>true
 | t::l=>whl t && kh l
end
theorem eJ (t:Ty):whl t=(fmd t && kh t.kids):=by cases t;rfl
theorem xI:∀ l,kh l=l.all whl
 | []=>rfl
 | t::l=>by rw [kh,xI l,List.all_cons]
noncomputable def c59:Code:=aB Tryz.f59
theorem BI {p:Prop} (h:p:=by have:=lr t k;have:=cu t k oq;have:=mj (t.kids.getD k Ty.zero);simp only [List.length_append,List.length_cons,List.length_nil];omega):p:=h
theorem Im {p:Prop} (h:p:=by have:=lr t k;simp only [List.length_append,List.length_cons,List.length_nil];omega):p:=h
theorem Fv {p:Prop} (h:p:=by rw [ru _ _ oq,List.append_assoc]):p:=h
theorem BT (t:Ty) (hs:t.sz<100000000):aC cx 59 [Ty.v t] (.imm ((az t).map Occ.v)):=by
 induction hN:t.sz using Nat.strongRecOn generalizing t with|_ N ih =>
 have ihO:∀ t':Ty,t'.sz<t.sz→aC cx 59 [t'.v] (.imm ((az t').map Occ.v)):=fun t' h1=>ih _ (by rw [← hN];exact h1) t' (Nat.lt_trans h1 hs) rfl
 have hz1:=bP t
 have hz2:=cF t
 have hz3:=gT t
 refine am (cx:=cx) 46 0 [(ResultVar.tmp 2)] Tryz.func59 rfl rfl rfl rfl rfl zq ?_
 show wpA cx 46 0 (at_ c59 []) _ _ _
 apply qZ [(0,Ty.v t)] []
 apply qW 2 [(1,.ptr 0 0)] [t.bx]
 apply qU 1 [(1,.ptr 0 0),(3,.full [])]
 refine rK 3 3 dq kq ?_
 apply qZ [(1,.ptr 0 0),(3,.own 1 0 0)] [t.bx,.arr 3 (([]:List (Occ)).map Occ.v) 0]
 apply ao
 apply qU 3 [(1,.ptr 0 0),(3,.own 1 0 0),(7,.bool ((t.kind)==6))]
 by_cases hb1:(t.kind)=6
 apply qt (beq_iff_eq.2 hb1)
 apply qo
 apply qr 5
 refine qY (BS (o:=1) (len:=0) (l:=([]:List (Occ))) (xs:=[.agg [.int .i64 (t.n),.bool false,.full []]]) (enc:=Occ.v) (sz:=3) (fr:=0) (x:=(.full [.agg [.int .i64 (t.n),.bool false,.full []]])) kq nK yK nK rfl kq rfl rfl kq ⟨by decide,by kernel_rfl⟩ kq (by simp) (by simp)) ?_ ?_ ?_
 apply qR 1 [(1,.ptr 0 0),(3,.own 1 0 (([]:List (Occ)).length+1))] [t.bx,.arr 3 (([]:List (Occ)).map Occ.v++[.agg [.int .i64 (t.n),.bool false,.full []]]) 0]
 refine IR 1 (sz:=3) (fr:=0) (es:=(([]:List (Occ)).map Occ.v++[.agg [.int .i64 (t.n),.bool false,.full []]])) ((([]:List (Occ))++[(Occ.mk (t.n) false [])]).map Occ.v) kq (by simp [Ty.v,bh]) (by simp [Ty.v,bo,Occ.v]) ?_
 refine JG 3 (.own 1 0 (([]:List (Occ)).length+1)) (.own 1 0 (([]:List (Occ))++[(Occ.mk (t.n) false [])]).length) kq zq ?_
 apply qZ [(1,.ptr 0 0),(3,.own 1 0 (([]:List (Occ))++[(Occ.mk (t.n) false [])]).length)] [t.bx,.arr 3 ((([]:List (Occ))++[(Occ.mk (t.n) false [])]).map Occ.v) 0]
 apply ao
 apply qU 1 [(1,.ptr 0 0),(3,.own 1 0 (([]:List (Occ))++[(Occ.mk (t.n) false [])]).length),(4,.int .i64 0)]
 apply qB 0
 refine bB (σ:=Nat) (fun k=>[(1,.ptr 0 0),(3,.own 1 0 ((([]:List (Occ))++[(Occ.mk (t.n) false [])])++aF (t.kids.take k)).length),(4,.int .i64 ((k:Nat):Int))]) (fun k=>[t.bx,.arr 3 (((([]:List (Occ))++[(Occ.mk (t.n) false [])])++aF (t.kids.take k)).map Occ.v) 0]) (fun k=>k≤t.kids.length) (fun k=>t.kids.length - k) 0 kq (by exact Nat.zero_le _) ⟨⟨kq,(Eq.trans (b:=.own 1 0 (([]:List (Occ))++[(Occ.mk (t.n) false [])]).length) kq (by simp [aF])),kq,trivial⟩,by simp [aQ,aa.bel],by simp,(Eq.trans (b:=[t.bx,.arr 3 ((([]:List (Occ))++[(Occ.mk (t.n) false [])]).map Occ.v) 0]) kq (by simp [aF])),by simp [af.belO,-List.map_append]⟩ ?_
 rintro k hk
 apply ao
 apply qV 3
 refine qy (au (l:=t.kids) (enc:=Ty.enc) kq ba) ?_ ?_ ?_
 apply qR 1 [(1,.ptr 0 0),(3,.own 1 0 ((([]:List (Occ))++[(Occ.mk (t.n) false [])])++aF (t.kids.take k)).length),(4,nI k),(18,.bool (decide (((k:Nat):Int)<((t.kids.length:Nat):Int))))] [t.bx,.arr 3 (((([]:List (Occ))++[(Occ.mk (t.n) false [])])++aF (t.kids.take k)).map Occ.v) 0]
 by_cases hb2:((k:Nat):Int)<((t.kids.length:Nat):Int)
 apply qt (decide_eq_true hb2)
 apply qK
 apply qz [(1,.ptr 0 0),(3,.own 1 0 ((([]:List (Occ))++[(Occ.mk (t.n) false [])])++aF (t.kids.take k)).length),(4,nI k)]
 apply ao
 apply qB 1
 apply qo
 apply qr 4
 refine qy ((aA (k:=.i64) (l:=t.kids) (enc:=Ty.enc) (i:=((k:Nat):Int)) Ty.zero kq ba bV bk oq oq).trans (congrArg (fun cs=>some (aa.pimm cs 0,_)) (aU (t.kids.getD k Ty.zero)))) ?_ ?_ ?_
 apply qr 1
 refine bR (args:=[.agg [.int .i64 ((t.kids.getD k Ty.zero).kind),.str (t.kids.getD k Ty.zero).name,.int .i64 ((t.kids.getD k Ty.zero).n),.imm ((t.kids.getD k Ty.zero).names.map aa.str),.imm ((t.kids.getD k Ty.zero).kids.map Ty.enc)]]) kq kq kq kq (ihO (t.kids.getD k Ty.zero) (cu t k oq)) (by simp [Ty.v,bo,Occ.v]) (by simp [Ty.v]) (by simp [Ty.v,bh]) ?_
 refine qY (bc (o:=1) (len:=(((([]:List (Occ))++[(Occ.mk (t.n) false [])])++aF (t.kids.take k)).length)) (l:=((([]:List (Occ))++[(Occ.mk (t.n) false [])])++aF (t.kids.take k))) (xs:=(az (t.kids.getD k Ty.zero))) (enc:=Occ.v) (sz:=3) (fr:=0) (x:=(.imm ((az (t.kids.getD k Ty.zero)).map Occ.v))) kq nK yK nK rfl kq rfl rfl kq ⟨by decide,by kernel_rfl⟩ (fun _=>rfl) BI BI) ?_ ?_ ?_
 apply qr 1
 apply qe
 apply aj
 apply ab
 apply qZ [(1,.ptr 0 0),(3,.own 1 0 (((([]:List (Occ))++[(Occ.mk (t.n) false [])])++aF (t.kids.take k))++(az (t.kids.getD k Ty.zero))).length),(4,nI k)] [t.bx,.arr 3 ((((([]:List (Occ))++[(Occ.mk (t.n) false [])])++aF (t.kids.take k))++(az (t.kids.getD k Ty.zero))).map Occ.v) 0]
 apply qo
 apply qr 1
 refine qy (aN (a:=((k:Nat):Int)) (b:=1) kq oq oq) ?_ ?_ ?_
 apply qr 1
 apply qe
 refine ab ⟨k+1,?_,?_,⟨⟨kq,(Eq.trans (b:=.own 1 0 (((([]:List (Occ))++[(Occ.mk (t.n) false [])])++aF (t.kids.take k))++(az (t.kids.getD k Ty.zero))).length) kq Fv),kq,trivial⟩,by simp [aQ,aa.bel],by simp,(Eq.trans (b:=[t.bx,.arr 3 ((((([]:List (Occ))++[(Occ.mk (t.n) false [])])++aF (t.kids.take k))++(az (t.kids.getD k Ty.zero))).map Occ.v) 0]) kq Fv),by simp [af.belO,-List.map_append]⟩⟩
 · omega
 · omega
 iterate 22 kernel_rfl
 apply qf (decide_eq_false hb2)
 refine bn 0 kq kq ?_
 apply ae
 apply ae
 apply ay
 apply ab
 apply qz [(1,.ptr 0 0),(3,.own 1 0 ((([]:List (Occ))++[(Occ.mk (t.n) false [])])++aF (t.kids.take k)).length)]
 apply ao
 apply qV 4
 by_cases hb3:(t.kind)=5
 apply qm [31,32] (beq_iff_eq.2 hb3)
 apply qR 4 [(1,.ptr 0 0),(3,.own 1 0 ((([]:List (Occ))++[(Occ.mk (t.n) false [])])++aF (t.kids.take k)).length),(36,.bool ((t.n) != 0))] [t.bx,.arr 3 (((([]:List (Occ))++[(Occ.mk (t.n) false [])])++aF (t.kids.take k)).map Occ.v) 0]
 by_cases hb4:(t.n)=0
 refine qf (x:=((t.n) != 0)) (bne_eq_false_iff_eq.2 hb4) ?_ ?_
 apply qK
 apply qz [(3,.own 1 0 ((([]:List (Occ))++[(Occ.mk (t.n) false [])])++aF (t.kids.take k)).length)]
 apply qU 2 [(2,.own 1 0 ((([]:List (Occ))++[(Occ.mk (t.n) false [])])++aF (t.kids.take k)).length)]
 refine a8 kq ?_
 refine fk (l:=[.own 1 0 ((([]:List (Occ))++[(Occ.mk (t.n) false [])])++aF (t.kids.take k)).length]) iq kq ?_
 rotate_left
 iterate 4 kernel_rfl
 refine qt (x:=((t.n) != 0)) (bne_iff_ne.2 hb4) ?_ ?_
 apply qo
 apply qr 7
 refine qY (bc (o:=1) (len:=(((([]:List (Occ))++[(Occ.mk (t.n) false [])])++aF (t.kids.take k)).length)) (l:=((([]:List (Occ))++[(Occ.mk (t.n) false [])])++aF (t.kids.take k))) (xs:=[(Occ.mk (t.n) true t.names)]) (enc:=Occ.v) (sz:=3) (fr:=0) (x:=(.full [.agg [.int .i64 (t.n),.bool true,.imm (t.names.map aa.str)]])) kq nK yK nK rfl kq rfl rfl kq ⟨by decide,by kernel_rfl⟩ (fun _=>rfl) BI BI) ?_ ?_ ?_
 apply qR 1 [(3,.own 1 0 (((([]:List (Occ))++[(Occ.mk (t.n) false [])])++aF (t.kids.take k))++[(Occ.mk (t.n) true t.names)]).length)] [t.bx,.arr 3 ((((([]:List (Occ))++[(Occ.mk (t.n) false [])])++aF (t.kids.take k))++[(Occ.mk (t.n) true t.names)]).map Occ.v) 0]
 apply qU 2 [(2,.own 1 0 (((([]:List (Occ))++[(Occ.mk (t.n) false [])])++aF (t.kids.take k))++[(Occ.mk (t.n) true t.names)]).length)]
 refine a8 kq ?_
 refine fk (l:=[.own 1 0 (((([]:List (Occ))++[(Occ.mk (t.n) false [])])++aF (t.kids.take k))++[(Occ.mk (t.n) true t.names)]).length]) iq kq ?_
 rotate_left
 iterate 9 kernel_rfl
 apply qm [31,32] (beq_eq_false_iff_ne.2 hb3)
 apply qR 4 [(1,.ptr 0 0),(3,.own 1 0 ((([]:List (Occ))++[(Occ.mk (t.n) false [])])++aF (t.kids.take k)).length),(36,.bool false)] [t.bx,.arr 3 (((([]:List (Occ))++[(Occ.mk (t.n) false [])])++aF (t.kids.take k)).map Occ.v) 0]
 refine d5 kq kq ?_
 apply qK
 apply qz [(3,.own 1 0 ((([]:List (Occ))++[(Occ.mk (t.n) false [])])++aF (t.kids.take k)).length)]
 apply qU 2 [(2,.own 1 0 ((([]:List (Occ))++[(Occ.mk (t.n) false [])])++aF (t.kids.take k)).length)]
 refine a8 kq ?_
 refine fk (l:=[.own 1 0 ((([]:List (Occ))++[(Occ.mk (t.n) false [])])++aF (t.kids.take k)).length]) iq kq ?_
 rotate_left
 iterate 25 kernel_rfl
 apply qf (beq_eq_false_iff_ne.2 hb1)
 apply qK
 apply qz [(1,.ptr 0 0),(3,.own 1 0 0)]
 apply ao
 apply qU 1 [(1,.ptr 0 0),(3,.own 1 0 0),(4,.int .i64 0)]
 apply qB 0
 refine bB (σ:=Nat) (fun k=>[(1,.ptr 0 0),(3,.own 1 0 (([]:List (Occ))++aF (t.kids.take k)).length),(4,.int .i64 ((k:Nat):Int))]) (fun k=>[t.bx,.arr 3 ((([]:List (Occ))++aF (t.kids.take k)).map Occ.v) 0]) (fun k=>k≤t.kids.length) (fun k=>t.kids.length - k) 0 kq (by exact Nat.zero_le _) ⟨⟨kq,(Eq.trans (b:=.own 1 0 0) kq (by simp [aF])),kq,trivial⟩,by simp [aQ,aa.bel],by simp,(Eq.trans (b:=[t.bx,.arr 3 (([]:List (Occ)).map Occ.v) 0]) kq (by simp [aF])),by simp [af.belO,-List.map_append]⟩ ?_
 rintro k hk
 apply ao
 apply qV 3
 refine qy (au (l:=t.kids) (enc:=Ty.enc) kq ba) ?_ ?_ ?_
 apply qR 1 [(1,.ptr 0 0),(3,.own 1 0 (([]:List (Occ))++aF (t.kids.take k)).length),(4,nI k),(18,.bool (decide (((k:Nat):Int)<((t.kids.length:Nat):Int))))] [t.bx,.arr 3 ((([]:List (Occ))++aF (t.kids.take k)).map Occ.v) 0]
 by_cases hb5:((k:Nat):Int)<((t.kids.length:Nat):Int)
 apply qt (decide_eq_true hb5)
 apply qK
 apply qz [(1,.ptr 0 0),(3,.own 1 0 (([]:List (Occ))++aF (t.kids.take k)).length),(4,nI k)]
 apply ao
 apply qB 1
 apply qo
 apply qr 4
 refine qy ((aA (k:=.i64) (l:=t.kids) (enc:=Ty.enc) (i:=((k:Nat):Int)) Ty.zero kq ba bV bk oq oq).trans (congrArg (fun cs=>some (aa.pimm cs 0,_)) (aU (t.kids.getD k Ty.zero)))) ?_ ?_ ?_
 apply qr 1
 refine bR (args:=[.agg [.int .i64 ((t.kids.getD k Ty.zero).kind),.str (t.kids.getD k Ty.zero).name,.int .i64 ((t.kids.getD k Ty.zero).n),.imm ((t.kids.getD k Ty.zero).names.map aa.str),.imm ((t.kids.getD k Ty.zero).kids.map Ty.enc)]]) kq kq kq kq (ihO (t.kids.getD k Ty.zero) (cu t k oq)) (by simp [Ty.v,bo,Occ.v]) (by simp [Ty.v]) (by simp [Ty.v,bh]) ?_
 refine qY (bc (o:=1) (len:=((([]:List (Occ))++aF (t.kids.take k)).length)) (l:=(([]:List (Occ))++aF (t.kids.take k))) (xs:=(az (t.kids.getD k Ty.zero))) (enc:=Occ.v) (sz:=3) (fr:=0) (x:=(.imm ((az (t.kids.getD k Ty.zero)).map Occ.v))) kq nK yK nK rfl kq rfl rfl kq ⟨by decide,by kernel_rfl⟩ (fun _=>rfl) BI BI) ?_ ?_ ?_
 apply qr 1
 apply qe
 apply aj
 apply ab
 apply qZ [(1,.ptr 0 0),(3,.own 1 0 ((([]:List (Occ))++aF (t.kids.take k))++(az (t.kids.getD k Ty.zero))).length),(4,nI k)] [t.bx,.arr 3 (((([]:List (Occ))++aF (t.kids.take k))++(az (t.kids.getD k Ty.zero))).map Occ.v) 0]
 apply qo
 apply qr 1
 refine qy (aN (a:=((k:Nat):Int)) (b:=1) kq oq oq) ?_ ?_ ?_
 apply qr 1
 apply qe
 refine ab ⟨k+1,?_,?_,⟨⟨kq,(Eq.trans (b:=.own 1 0 ((([]:List (Occ))++aF (t.kids.take k))++(az (t.kids.getD k Ty.zero))).length) kq Fv),kq,trivial⟩,by simp [aQ,aa.bel],by simp,(Eq.trans (b:=[t.bx,.arr 3 (((([]:List (Occ))++aF (t.kids.take k))++(az (t.kids.getD k Ty.zero))).map Occ.v) 0]) kq Fv),by simp [af.belO,-List.map_append]⟩⟩
 · omega
 · omega
 iterate 22 kernel_rfl
 apply qf (decide_eq_false hb5)
 refine bn 0 kq kq ?_
 apply ae
 apply ae
 apply ay
 apply ab
 apply qz [(1,.ptr 0 0),(3,.own 1 0 (([]:List (Occ))++aF (t.kids.take k)).length)]
 apply ao
 apply qV 4
 by_cases hb6:(t.kind)=5
 apply qm [31,32] (beq_iff_eq.2 hb6)
 apply qR 4 [(1,.ptr 0 0),(3,.own 1 0 (([]:List (Occ))++aF (t.kids.take k)).length),(36,.bool ((t.n) != 0))] [t.bx,.arr 3 ((([]:List (Occ))++aF (t.kids.take k)).map Occ.v) 0]
 by_cases hb7:(t.n)=0
 refine qf (x:=((t.n) != 0)) (bne_eq_false_iff_eq.2 hb7) ?_ ?_
 apply qK
 apply qz [(3,.own 1 0 (([]:List (Occ))++aF (t.kids.take k)).length)]
 apply qU 2 [(2,.own 1 0 (([]:List (Occ))++aF (t.kids.take k)).length)]
 refine a8 kq ?_
 refine fk (l:=[.own 1 0 (([]:List (Occ))++aF (t.kids.take k)).length]) iq kq ?_
 rotate_left
 iterate 4 kernel_rfl
 refine qt (x:=((t.n) != 0)) (bne_iff_ne.2 hb7) ?_ ?_
 apply qo
 apply qr 7
 refine qY (bc (o:=1) (len:=((([]:List (Occ))++aF (t.kids.take k)).length)) (l:=(([]:List (Occ))++aF (t.kids.take k))) (xs:=[(Occ.mk (t.n) true t.names)]) (enc:=Occ.v) (sz:=3) (fr:=0) (x:=(.full [.agg [.int .i64 (t.n),.bool true,.imm (t.names.map aa.str)]])) kq nK yK nK rfl kq rfl rfl kq ⟨by decide,by kernel_rfl⟩ (fun _=>rfl) Im Im) ?_ ?_ ?_
 apply qR 1 [(3,.own 1 0 ((([]:List (Occ))++aF (t.kids.take k))++[(Occ.mk (t.n) true t.names)]).length)] [t.bx,.arr 3 (((([]:List (Occ))++aF (t.kids.take k))++[(Occ.mk (t.n) true t.names)]).map Occ.v) 0]
 apply qU 2 [(2,.own 1 0 ((([]:List (Occ))++aF (t.kids.take k))++[(Occ.mk (t.n) true t.names)]).length)]
 refine a8 kq ?_
 refine fk (l:=[.own 1 0 ((([]:List (Occ))++aF (t.kids.take k))++[(Occ.mk (t.n) true t.names)]).length]) iq kq ?_
 rotate_left
 iterate 9 kernel_rfl
 apply qm [31,32] (beq_eq_false_iff_ne.2 hb6)
 apply qR 4 [(1,.ptr 0 0),(3,.own 1 0 (([]:List (Occ))++aF (t.kids.take k)).length),(36,.bool false)] [t.bx,.arr 3 ((([]:List (Occ))++aF (t.kids.take k)).map Occ.v) 0]
 refine d5 kq kq ?_
 apply qK
 apply qz [(3,.own 1 0 (([]:List (Occ))++aF (t.kids.take k)).length)]
 apply qU 2 [(2,.own 1 0 (([]:List (Occ))++aF (t.kids.take k)).length)]
 refine a8 kq ?_
 refine fk (l:=[.own 1 0 (([]:List (Occ))++aF (t.kids.take k)).length]) iq kq ?_
 rotate_left
 iterate 27 kernel_rfl
 all_goals
  first|(exfalso;omega)|(have hk2:t.kids.take k=t.kids:=List.take_of_length_le oq;rw [kB,hk2];simp [rW,rV,aK,aa.frz,bL, *];done)
def pJ (l:List Occ) (i k:Nat):Bool:=((l.getD i Occ.zero).n==(l.getD k Occ.zero).n) && ((l.getD i Occ.zero).row != (l.getD k Occ.zero).row || !((l.getD i Occ.zero).names==(l.getD k Occ.zero).names))
def vl (l:List Occ):Bool:=(List.range l.length).all fun i=>(List.range i).all fun k=>!(pJ l i k)
def tJ (t:Ty):Bool:=whl t && vl (az t)
theorem zI {l:List Occ} (h:∀ i,i<l.length→∀ k,k<i→pJ l i k=false):vl l=true:=by
 unfold vl;simp only [List.all_eq_true,List.mem_range,Bool.not_eq_true'];exact h
def eG (s:VSt) (o:Occ):VSt:=if o.row then ⟨s.ok && ku (ai o.n s.rw) o.names,s.pl,aI o.n o.names s.rw⟩ else ⟨s.ok,aI o.n true s.pl,s.rw⟩
def eg (s:VSt) (b:Bool):VSt:=⟨s.ok && b,s.pl,s.rw⟩
theorem jZ (s:VSt) (a b:Bool):eg (eg s a) b=eg s (a && b):=by simp [eg,Bool.and_assoc]
theorem yd (s:VSt):eg s true=s:=by simp [eg]
theorem BD (s:VSt) (b:Bool) (o:Occ):eG (eg s b) o=eg (eG s o) b:=by
 unfold eG eg
 split <;> simp [Bool.and_assoc,Bool.and_comm b]
theorem lU (b:Bool):∀ (l:List Occ) (s:VSt),l.foldl eG (eg s b)=eg (l.foldl eG s) b
 | [],s=>rfl
 | o::l,s=>by rw [List.foldl_cons,BD,lU b l,List.foldl_cons]
theorem Gn (s:VSt) (t:Ty) (h:¬ t.kind=5):bj s t=eg ((rW t).foldl eG s) (fmd t):=by
 unfold bj rW
 by_cases h6:t.kind=6
 · rw [if_pos h6,if_pos h6];rfl
 · rw [if_neg h6,if_neg h6,if_neg (fun hc=>h hc.1)];rfl
theorem Fm (s:VSt) (t:Ty) (h:t.kind=5):bj s t=eg ((rV t).foldl eG s) (fmd t):=by
 unfold bj rV
 rw [if_neg oq]
 by_cases hn:t.n=0
 · rw [if_neg (fun hc=>hc.2 hn),if_neg (fun hc=>hc.2 hn)];rfl
 · rw [if_pos ⟨h,hn⟩,if_pos ⟨h,hn⟩];simp [eG,eg,Bool.and_assoc,Bool.and_comm (fmd t)]
mutual
theorem wc:∀ (t:Ty) (s:VSt),bA s t=eg ((az t).foldl eG s) (whl t)
 | .mk k x n l ks,s=>by
  by_cases h5:k=5
  · rw [wl s (.mk k x n l ks) h5,Fm _ (.mk k x n l ks) h5,kB,eJ]
    have e:rW (.mk k x n l ks)=[]:=by unfold rW;rw [if_neg (by simp only [Ty.kind];omega)]
    rw [e,List.nil_append,List.foldl_append]
    show eg (List.foldl eG (aZ s ks) _) _=eg (List.foldl eG (List.foldl eG s (aF ks)) _) (_ && kh ks)
    rw [ni ks s,lU,jZ,Bool.and_comm]
  · rw [wg s (.mk k x n l ks) h5,Gn _ (.mk k x n l ks) h5,kB,eJ]
    have e:rV (.mk k x n l ks)=[]:=by unfold rV;rw [if_neg (fun hc=>h5 hc.1)]
    rw [e,List.append_nil,List.foldl_append]
    show aZ (eg _ _) ks=eg (List.foldl eG _ (aF ks)) (_ && kh ks)
    rw [ni ks,lU,jZ]
theorem ni:∀ (l:List Ty) (s:VSt),aZ s l=eg ((aF l).foldl eG s) (kh l)
 | [],s=>by simp only [aZ,aF,kh,yd,List.foldl_nil]
 | t::l,s=>by
  simp only [aZ,aF,kh]
  rw [wc t s,ni l,lU,jZ,List.foldl_append]
end
theorem xi {κ α:Type} [DecidableEq κ] (k:κ) (v:α):∀ l:List (κ×α),ai k l=some v→(k,v)∈l
 | [],h=>by simp [ai] at h
 | p::l,h=>by
  simp only [ai] at h
  split at h
  · rename_i e;cases h;subst e;exact List.mem_cons_self
  · exact List.mem_cons_of_mem _ (xi k v l h)
theorem oN {κ α:Type} [DecidableEq κ]:∀ (l:List (κ×α)) (p:κ×α),p∈l→∃ v,ai p.1 l=some v
 | q::l,p,h=>by
  simp only [ai]
  by_cases e:p.1=q.1
  · rw [if_pos e];exact ⟨_,rfl⟩
  · rw [if_neg e]
    rcases List.mem_cons.1 h with h|h
    · rw [h] at e;exact absurd rfl e
    · exact oN l p h
structure Bs (l:List Occ) (s:VSt):Prop where
 pl:∀ n,ai n s.pl=some true↔∃ o∈l,o.row=false∧o.n=n
 plt:∀ n b,ai n s.pl=some b→b=true
 rw1:∀ n w,ai n s.rw=some w→∃ o∈l,o.row=true∧o.n=n∧o.names=w
 rw2:∀ o∈l,o.row=true→∃ w,ai o.n s.rw=some w
 rw3:s.ok=true→∀ o∈l,o.row=true→ai o.n s.rw=some o.names
 ok:(∀ o∈l,∀ o'∈l,o.row=true→o'.row=true→o.n=o'.n→o.names=o'.names)→s.ok=true
theorem Dg:Bs [] VSt.init:=⟨by simp [VSt.init,ai],by simp [VSt.init,ai],by simp [VSt.init,ai],by simp,by simp,fun _=>rfl⟩
theorem Cg {l:List Occ} {s:VSt} (h:Bs l s) (o:Occ):Bs (l++[o]) (eG s o):=by
 unfold eG
 cases hr:o.row with
 | false =>
  simp only [Bool.false_eq_true,if_false]
  refine ⟨fun n=>?_,fun n b=>?_,fun n w hw=>?_,fun q hq hqr=>?_,fun hok q hq hqr=>?_,fun hc=>?_⟩
  · simp only [aP]
    by_cases e:n=o.n
    · subst e;simp;exact .inr hr
    · rw [if_neg e,h.pl n]
      constructor
      · rintro ⟨q,h1,h2⟩;exact ⟨q,List.mem_append_left _ h1,h2⟩
      · rintro ⟨q,h1,h2⟩
        rcases List.mem_append.1 h1 with h1|h1
        · exact ⟨q,h1,h2⟩
        · simp at h1;subst h1;exact absurd h2.2.symm e
  · simp only [aP]
    by_cases e:n=o.n
    · rw [if_pos e];intro h;cases h;rfl
    · rw [if_neg e];exact h.plt n b
  · obtain ⟨q,h1,h2⟩:=h.rw1 n w hw;exact ⟨q,List.mem_append_left _ h1,h2⟩
  · rcases List.mem_append.1 hq with h1|h1
    · exact h.rw2 q h1 hqr
    · simp at h1;subst h1;rw [hr] at hqr;cases hqr
  · rcases List.mem_append.1 hq with h1|h1
    · exact h.rw3 hok q h1 hqr
    · simp at h1;subst h1;rw [hr] at hqr;cases hqr
  · exact h.ok fun a ha b hb=>hc a (List.mem_append_left _ ha) b (List.mem_append_left _ hb)
 | true =>
  simp only [if_true]
  have hrw:ku (ai o.n s.rw) o.names=true→∀ w,ai o.n s.rw=some w→w=o.names:=by
   intro h1 w hw;rw [hw] at h1;simpa [ku] using h1
  refine ⟨fun n=>?_,h.plt,fun n w hw=>?_,fun q hq hqr=>?_,fun hok q hq hqr=>?_,fun hc=>?_⟩
  · rw [h.pl n]
    constructor
    · rintro ⟨q,h1,h2⟩;exact ⟨q,List.mem_append_left _ h1,h2⟩
    · rintro ⟨q,h1,h2⟩
      rcases List.mem_append.1 h1 with h1|h1
      · exact ⟨q,h1,h2⟩
      · simp at h1;subst h1;rw [hr] at h2;cases h2.1
  · simp only [aP] at hw
    split at hw
    · rename_i e;cases hw;exact ⟨o,by simp,hr,e.symm,rfl⟩
    · obtain ⟨q,h1,h2⟩:=h.rw1 n w hw;exact ⟨q,List.mem_append_left _ h1,h2⟩
  · simp only [aP]
    split
    · exact ⟨_,rfl⟩
    · rename_i e
      rcases List.mem_append.1 hq with h1|h1
      · exact h.rw2 q h1 hqr
      · simp at h1;subst h1;exact absurd rfl e
  · simp only [Bool.and_eq_true] at hok
    simp only [aP]
    rcases List.mem_append.1 hq with h1|h1
    · have:=h.rw3 hok.1 q h1 hqr
      split
      · rename_i e
        rw [e] at this
        rw [hrw hok.2 _ this]
      · exact this
    · simp at h1;subst h1;rw [if_pos rfl]
  · simp only [Bool.and_eq_true]
    refine ⟨h.ok fun a ha b hb=>hc a (List.mem_append_left _ ha) b (List.mem_append_left _ hb),?_⟩
    cases hm:ai o.n s.rw with
    | none=>rfl
    | some w =>
     obtain ⟨q,h1,h2,h3,h4⟩:=h.rw1 _ _ hm
     have:=hc q (List.mem_append_left _ h1) o zq h2 hr h3
     simp [ku,← h4,this]
theorem Cn (l:List Occ):Bs l (l.foldl eG VSt.init):=by
 have:∀ (r l:List Occ) (s:VSt),Bs l s→Bs (l++r) (r.foldl eG s):=by
  intro r
  induction r with
  | nil=>intro l s h;simpa using h
  | cons o r ih=>intro l s h;have:=ih (l++[o]) _ (Cg h o);simpa using this
 simpa using this l [] _ Dg
def Con (l:List Occ):Prop:=∀ o∈l,∀ o'∈l,o.n=o'.n→o.row=o'.row∧o.names=o'.names
theorem Gv (s:VSt):okL s []=true↔s.ok=true∧∀ p∈s.rw,(ai p.1 s.pl).getD false=false:=by
 simp only [okL,Bool.and_eq_true,List.all_eq_true,List.mem_range,List.contains_nil,Bool.false_or,Bool.not_eq_true',Ck]
 constructor
 · rintro ⟨h1,h2⟩
   refine ⟨h1,fun p hp=>?_⟩
   obtain ⟨i,hi,rfl⟩:=List.getElem_of_mem hp
   have:=h2 i hi
   rwa [List.getD_eq_getElem?_getD,List.getElem?_eq_getElem hi] at this
 · rintro ⟨h1,h2⟩
   refine ⟨h1,fun i hi=>?_⟩
   rw [List.getD_eq_getElem?_getD,List.getElem?_eq_getElem hi]
   exact h2 _ (List.getElem_mem hi)
theorem FD (l:List Occ) (hn:∀ o∈l,o.row=false→o.names=[]):okL (l.foldl eG VSt.init) []=true↔Con l:=by
 have h:=Cn l
 rw [Gv]
 constructor
 · rintro ⟨h1,h2⟩ o ho o' ho' e
   have mix:∀ o∈l,∀ o'∈l,o.n=o'.n→o.row=true→o'.row=false→False:=by
    intro o ho o' ho' e hr hr'
    obtain ⟨w,hw⟩:=h.rw2 o ho hr
    have:=h2 _ (xi _ _ _ hw)
    have hp:=(h.pl o.n).2 ⟨o',ho',hr',e.symm⟩
    simp only at this
    rw [hp] at this;cases this
   cases hr:o.row with
   | false =>
    cases hr':o'.row with
    | false=>exact ⟨rfl,by rw [hn o ho hr,hn o' ho' hr']⟩
    | true=>exact (mix o' ho' o ho e.symm hr' hr).elim
   | true =>
    cases hr':o'.row with
    | false=>exact (mix o ho o' ho' e hr hr').elim
    | true =>
     have a:=h.rw3 h1 o ho hr
     have b:=h.rw3 h1 o' ho' hr'
     rw [e,b] at a
     exact ⟨rfl,by injection a with a;exact a.symm⟩
 · intro hc
   refine ⟨h.ok fun a ha b hb _ _ e=>(hc a ha b hb e).2,fun p hp=>?_⟩
   obtain ⟨w,hw⟩:=oN _ p hp
   obtain ⟨o,ho,hr,e,_⟩:=h.rw1 _ _ hw
   cases hm:ai p.1 (l.foldl eG VSt.init).pl with
   | none=>rfl
   | some b =>
    have hb:=h.plt _ _ hm
    subst hb
    obtain ⟨o',ho',hr',e'⟩:=(h.pl _).1 hm
    have:=(hc o ho o' ho' (e.trans e'.symm)).1
    rw [hr,hr'] at this;cases this
theorem yr (l:List Occ) (i k:Nat):pJ l i k=false↔((l.getD i Occ.zero).n=(l.getD k Occ.zero).n→(l.getD i Occ.zero).row=(l.getD k Occ.zero).row∧(l.getD i Occ.zero).names=(l.getD k Occ.zero).names):=by
 unfold pJ
 generalize l.getD i Occ.zero=a
 generalize l.getD k Occ.zero=b
 by_cases h1:a.n=b.n <;> by_cases h2:a.row=b.row <;> by_cases h3:a.names=b.names <;> simp [h1,h2,h3]
theorem Bi (l:List Occ):vl l=true↔Con l:=by
 have e:∀ i (h:i<l.length),l.getD i Occ.zero=l[i]:=fun i h=>by rw [List.getD_eq_getElem?_getD,List.getElem?_eq_getElem h];rfl
 unfold vl Con
 simp only [List.all_eq_true,List.mem_range,Bool.not_eq_true',yr]
 constructor
 · intro h o ho o' ho' hn
   obtain ⟨i,hi,rfl⟩:=List.getElem_of_mem ho
   obtain ⟨k,hk,rfl⟩:=List.getElem_of_mem ho'
   rcases Nat.lt_trichotomy i k with hlt|rfl|hlt
   · have:=h k hk i hlt;rw [e k hk,e i hi] at this
     exact ⟨(this hn.symm).1.symm,(this hn.symm).2.symm⟩
   · exact ⟨rfl,rfl⟩
   · have:=h i hi k hlt;rw [e k hk,e i hi] at this
     exact this hn
 · intro h i hi k hk
   rw [e i hi,e k oq]
   exact h _ (List.getElem_mem _) _ (List.getElem_mem _)
mutual
theorem pU:∀ (t:Ty) (o:Occ),o∈az t→o.row=false→o.names=[]
 | .mk k x n l ks,o,h=>by
  simp only [az,List.mem_append] at h
  rcases h with (h|h)|h
  · split at h
    · simp at h;subst h;intro _;rfl
    · simp at h
  · exact oD ks o h
  · split at h
    · simp at h;subst h;intro hc;cases hc
    · simp at h
theorem oD:∀ (l:List Ty) (o:Occ),o∈aF l→o.row=false→o.names=[]
 | [],o,h=>by simp [aF] at h
 | t::l,o,h=>by
  simp only [aF,List.mem_append] at h
  rcases h with h|h
  · exact pU t o h
  · exact oD l o h
end
theorem ER (s:VSt) (b:Bool):okL (eg s b) []=(b && okL s []):=by
 show ((s.ok && b) && _)=(b && (s.ok && _))
 rw [Bool.and_comm s.ok b,Bool.and_assoc];rfl
theorem yk (t:Ty):fC t=tJ t:=by
 unfold fC tJ
 rw [wc,ER]
 congr 1
 rw [Bool.eq_iff_iff,FD _ (pU t),Bi]
def fK (x m:Int):Int:=if x<0 then (-(x+1)).tmod m else x.tmod m
def ap (l:List Int) (q:Nat) (m:Int):Int:=if q<l.length then fK (l.getD q 0) m else 0
def sg (l:List Int):Prop:=∀ x∈l,-9223372036854775808≤x∧x≤9223372036854775807
theorem Fo {l:List Int} (h:sg l) (i:Nat):-9223372036854775808≤l.getD i 0∧l.getD i 0≤9223372036854775807:=by
 by_cases hi:i<l.length
 · rw [List.getD_eq_getElem?_getD,List.getElem?_eq_getElem hi];exact h _ (List.getElem_mem hi)
 · rw [List.getD_eq_getElem?_getD,List.getElem?_eq_none oq];simp
theorem px {x m:Int} (hx:0≤x) (hm:0<m):0≤x.tmod m∧x.tmod m<m:=by
 rw [Int.tmod_eq_emod_of_nonneg hx];exact ⟨Int.emod_nonneg _ oq,Int.emod_lt_of_pos _ hm⟩
theorem zK (x m:Int) (hm:0<m):0≤fK x m∧fK x m<m:=by
 unfold fK;split
 · exact px oq hm
 · exact px oq hm
theorem d6 (l:List Int) (q:Nat) (m:Int) (hm:0<m):0≤ap l q m∧ap l q m<m:=by
 unfold ap;split
 · exact zK _ _ hm
 · omega
theorem vO {l:List Int} {q:Nat} {m:Int} (h:q<l.length):ap l q m=fK (l.getD q 0) m:=by rw [ap,if_pos h]
theorem BG {l:List Int} {q:Nat} {m:Int} (h:¬ q<l.length):ap l q m=0:=by rw [ap,if_neg h]
noncomputable def c43:Code:=aB Tryz.f43
theorem yE  :aC cx 43 [] (.imm [.str [97],.str [98],.str [99],.str [105,100]]):=by
 refine am (cx:=cx) 2 0 [(ResultVar.tmp 0)] Tryz.func43 rfl rfl rfl rfl rfl zq ?_
 show wpA cx 2 0 (at_ c43 []) _ _ _
 apply qZ [] []
 apply qU 1 []
 apply qU 2 [(0,.full [.str [97],.str [98],.str [99],.str [105,100]])]
 refine a8 kq ?_
 refine fk (l:=[.full [.str [97],.str [98],.str [99],.str [105,100]]]) iq kq ?_
 · exact ⟨rfl,rfl⟩
 iterate 3 kernel_rfl
noncomputable def c31:Code:=aB Tryz.f31
theorem vE (x m:Int) (hx:-9223372036854775808≤x∧x≤9223372036854775807) (hm:0<m):aC cx 31 [.int .i64 (x),.int .i64 (m)] (.int .i64 (fK x m)):=by
 refine am (cx:=cx) 13 0 [(ResultVar.tmp 4)] Tryz.func31 rfl rfl rfl rfl rfl zq ?_
 show wpA cx 13 0 (at_ c31 []) _ _ _
 apply qZ [(0,.int .i64 (x)),(1,.int .i64 (m))] []
 apply qU 1 [(0,.int .i64 (x)),(1,.int .i64 (m))]
 apply ao
 apply qU 2 [(0,.int .i64 (x)),(1,.int .i64 (m)),(6,.bool (decide ((x)<0)))]
 by_cases hb1:(x)<0
 apply qt (decide_eq_true hb1)
 apply qo
 apply qr 1
 refine qy (aN (a:=(x)) (b:=1) kq oq oq) ?_ ?_ ?_
 refine qy (IT (a:=((x)+1)) kq oq oq) ?_ ?_ ?_
 apply qR 1 [(0,.int .i64 (-((x)+1))),(1,.int .i64 (m))] []
 apply qV 2
 refine qy (AG (a:=(-((x)+1))) (b:=(m)) kq oq) ?_ ?_ ?_
 apply qX 1
 refine b9 (n:=((-((x)+1)).tmod (m))) iq kq ?_
 · simp [fK, *]
 iterate 12 kernel_rfl
 apply qf (decide_eq_false hb1)
 apply qK
 apply qz [(0,.int .i64 (x)),(1,.int .i64 (m))]
 apply qV 2
 refine qy (AG (a:=(x)) (b:=(m)) kq oq) ?_ ?_ ?_
 apply qX 1
 refine b9 (n:=((x).tmod (m))) iq kq ?_
 · simp [fK, *]
 iterate 11 kernel_rfl
noncomputable def c51:Code:=aB Tryz.f51
theorem iN (l:List Int) (q:Nat) (m:Int) (hl:sg l) (hm:0<m):aC cx 51 [.imm (l.map iE),.int .i64 ((q:Nat):Int),.int .i64 (m)] (.int .i64 (ap l q m)):=by
 refine am (cx:=cx) 21 0 [(ResultVar.tmp 6)] Tryz.func51 rfl rfl rfl rfl rfl zq ?_
 show wpA cx 21 0 (at_ c51 []) _ _ _
 apply qZ [(0,.imm (l.map iE)),(1,nI q),(2,.int .i64 (m))] []
 apply qU 1 [(0,.imm (l.map iE)),(1,nI q),(2,.int .i64 (m))]
 apply ao
 apply qV 3
 by_cases hb1:((q:Nat):Int)<0
 apply qm [8,9] (decide_eq_true hb1)
 apply qR 5 [(0,.imm (l.map iE)),(1,nI q),(2,.int .i64 (m)),(14,.bool true)] []
 refine cw kq kq ?_
 apply qV 1
 apply qT
 apply aR
 refine b9 (n:=0) iq kq ?_
 rotate_left
 iterate 4 kernel_rfl
 apply qm [8,9] (decide_eq_false hb1)
 apply qr 2
 refine qy (au (l:=l) (enc:=iE) kq cU) ?_ ?_ ?_
 apply qR 2 [(0,.imm (l.map iE)),(1,nI q),(2,.int .i64 (m)),(14,.bool (decide (((q:Nat):Int) ≥ ((l.length:Nat):Int))))] []
 by_cases hb2:((q:Nat):Int) ≥ ((l.length:Nat):Int)
 apply qt (decide_eq_true hb2)
 apply qV 1
 apply qT
 apply aR
 refine b9 (n:=0) iq kq ?_
 rotate_left
 iterate 3 kernel_rfl
 apply qf (decide_eq_false hb2)
 apply qK
 apply qz [(0,.imm (l.map iE)),(1,nI q),(2,.int .i64 (m))]
 apply qV 2
 refine qy (aA (k:=.i64) (l:=l) (enc:=iE) (i:=((q:Nat):Int)) 0 kq cU ty3 (fun _=>rfl) oq oq) ?_ ?_ ?_
 apply qr 2
 refine qc [.int .i64 ((l.getD q 0)),.int .i64 (m)] (vE ((l.getD q 0)) (m) (Fo hl _) oq) ?_ ?_
 apply qX 1
 refine b9 (n:=(fK ((l.getD q 0)) (m))) iq kq ?_
 rotate_left
 iterate 18 kernel_rfl
 all_goals
  first|(exfalso;omega)|(rw [vO oq];done)|(rw [vO oq];simp;done)|(rw [BG oq];done)
theorem EH (l:List (List UInt8)) (s:List UInt8):-1≤cG l s∧cG l s<(l.length:Nat)∨l=[]∧cG l s=-1:=by
 unfold cG
 split
 · rename_i i hi
   obtain ⟨h1,_⟩:=List.findIdx?_eq_some_iff_getElem.1 hi
   left;omega
 · cases l with
   | nil=>right;exact ⟨rfl,rfl⟩
   | cons=>left;simp;omega
theorem B9 {p:Prop} (h:p:=by simpa [aa.bel] using h):p:=h
mutual
theorem jR:∀ x:aa,x.bel 0=true→x.refs=[]
 | .agg cs,h=>by simp only [aa.refs];exact c8 cs B9
 | .tup cs,h=>by simp only [aa.refs];exact c8 cs B9
 | .pimm cs _,h=>by simp only [aa.refs];exact c8 cs B9
 | .imm l,h=>by simp only [aa.refs];exact c8 l B9
 | .full l,h=>by simp only [aa.refs];exact c8 l B9
 | .fn f xs ys,h=>by
  simp only [aa.bel,Bool.and_eq_true] at h
  simp only [aa.refs,c8 xs h.1,c8 ys h.2,List.append_nil]
 | .iface t v,h=>by simp only [aa.refs];exact jR v B9
 | .ptr o _,h=>by simp [aa.bel] at h
 | .pown o _ _ _,h=>by simp [aa.bel] at h
 | .own o _ _,h=>by simp [aa.bel] at h
 | .map o,h=>by simp [aa.bel] at h
 | .itr o,h=>by simp [aa.bel] at h
 | .any,_=>rfl
 | .bool _,_=>rfl
 | .int _ _,_=>rfl
 | .str _,_=>rfl
 | .nilp,_=>rfl
 | .nilm,_=>rfl
 | .nilfn,_=>rfl
 | .nili,_=>rfl
theorem c8:∀ l:List aa,bN 0 l=true→dE l=[]
 | [],_=>rfl
 | x::l,h=>by
  simp only [bN,Bool.and_eq_true] at h
  simp only [dE,jR x h.1,c8 l h.2,List.append_nil]
end
@[simp] theorem HT (l:List (List UInt8)):dE (l.map .str)=[]:=c8 _ zq
@[simp] theorem Ip (l:List Ty):dE (l.map Ty.enc)=[]:=c8 _ zq
@[simp] theorem HM (l:List Int):dE (l.map (.int .i64))=[]:=c8 _ zq
@[simp] theorem H2 (r:Nat→Nat) (l:List (List UInt8)):b4 r (l.map .str)=l.map .str:=cM _ _ zq
@[simp] theorem Jq (r:Nat→Nat) (l:List Ty):b4 r (l.map Ty.enc)=l.map Ty.enc:=cM _ _ zq
@[simp] theorem H7 (r:Nat→Nat) (l:List Int):b4 r (l.map (.int .i64))=l.map (.int .i64):=cM _ _ zq
def ig (l:List (List UInt8)) (s:List UInt8):Nat:=(l.takeWhile (fun x=>aY x s)).length
def o7 (t:Ty) (s:List UInt8):List (List UInt8):=t.names.take (ig t.names s)++[s]++t.names.drop (ig t.names s)
def jT (t:Ty) (s:List UInt8) (x:Ty):List Ty:=t.kids.take (ig t.names s)++[x]++t.kids.drop (ig t.names s)
def mQ (t:Ty) (s:List UInt8) (x:Ty):Ty:=.mk 5 [] t.n (o7 t s) (jT t s x)
def uF (t:Ty):aa:=.agg [.int .i64 t.kind,.str t.name,.int .i64 t.n,.imm (t.names.map .str),.own 0 0 t.kids.length]
def uf (t:Ty):ac:=[.arr 5 (t.kids.map Ty.enc) 0]
theorem rN (t:Ty) (s:List UInt8) (x:Ty):uF (mQ t s x)=.agg [.int .i64 5,.str [],.int .i64 t.n,.imm ((o7 t s).map .str),.own 0 0 (jT t s x).length]:=rfl
theorem mp (t:Ty) (s:List UInt8) (x:Ty):uf (mQ t s x)=[.arr 5 ((jT t s x).map Ty.enc) 0]:=rfl
theorem rF:∀ (l:List (List UInt8)) (s:List UInt8) (k:Nat),(∀ i,i<k→aY (l.getD i []) s=true)→k≤l.length→(k<l.length→aY (l.getD k []) s=false)→ig l s=k
 | [],s,k,h,hk,_=>by simp at hk;subst hk;rfl
 | x::l,s,0,h,hk,hs=>by
  have:=hs zq
  simp at this
  simp [ig,List.takeWhile,this]
 | x::l,s,k+1,h,hk,hs=>by
  have h0:=h 0 oq
  simp at h0
  have:=rF l s k (fun i hi=>by have:=h (i+1) oq;simpa using this) (by simpa using hk) (fun hlt=>by have:=hs (by simpa using hlt);simpa using this)
  simp [ig,List.takeWhile,h0] at this ⊢
  exact this
noncomputable def c53:Code:=aB Tryz.f53
theorem fO {p:Prop} (h:p:=by simp only [List.length_append,List.length_take,List.length_drop,List.length_cons,List.length_nil];omega):p:=h
theorem wC {p:Prop} (h:p:=by simp [-List.map_append,-List.map_take,-List.map_drop,-List.append_assoc,aa.refs,dE,af.refs,af.isIter,oO,Abs.renT,eY,m8,af.ren,aa.ren,b4,List.idxOf_cons]):p:=h
theorem Iv {p:Prop} (h:p:=by simp [af.belO,-List.map_append,-List.map_take,-List.map_drop,-List.append_assoc]):p:=h
theorem Jb {p:Prop} (h:p:=by simp [aK,-List.map_append,-List.map_take,-List.map_drop,-List.append_assoc]):p:=h
theorem F8 (t x:Ty) (s:List UInt8) (hs:t.sz<100000000) (hx:x.sz<100000000) (hnk:t.names.length=t.kids.length):ar cx 53 [Ty.v t,.str s,Ty.v x] [] (fun v h=>v=uF (mQ t s x)∧h=uf (mQ t s x)):=by
 have hz1:=bP t
 have hz2:=cF t
 refine dN (cx:=cx) 61 0 [(ResultVar.cell 6 25)] Tryz.func53 rfl rfl rfl rfl rfl zq ?_
 show wpA cx 61 0 (at_ c53 []) _ _ _
 apply qZ [(0,Ty.v t),(1,.str s),(2,Ty.v x)] []
 apply qW 3 [(1,.str s),(3,.ptr 0 0),(5,.ptr 1 0),(6,.ptr 2 0)] [t.bx,x.bx,.box zC]
 apply qU 1 [(1,.str s),(3,.ptr 0 0),(5,.ptr 1 0),(6,.ptr 2 0),(7,.int .i64 0)]
 apply ao
 apply qB 0
 refine bB (σ:=Nat) (fun k=>[(1,.str s),(3,.ptr 0 0),(5,.ptr 1 0),(6,.ptr 2 0),(7,.int .i64 ((k:Nat):Int))]) (fun k=>[t.bx,x.bx,.box zC]) (fun k=>k≤t.names.length∧∀ i,i<k→aY (t.names.getD i []) s=true) (fun k=>t.names.length - k) 0 kq zq ⟨⟨kq,kq,kq,kq,kq,trivial⟩,by simp [aQ,aa.bel],by simp,kq,by simp [af.belO]⟩ ?_
 rintro k ⟨hk,ha⟩
 apply ao
 apply qV 3
 refine qy (au (l:=t.names) (enc:=aa.str) kq bi) ?_ ?_ ?_
 apply qr 2
 by_cases hb1:((k:Nat):Int)<((t.names.length:Nat):Int)
 apply qm [13,14] (decide_eq_true hb1)
 apply qr 3
 refine qy (aA (k:=.i64) (l:=t.names) (enc:=aa.str) (i:=((k:Nat):Int)) [] kq bi ty9 (fun _=>rfl) oq oq) ?_ ?_ ?_
 apply qR 4 [(1,.str s),(3,.ptr 0 0),(5,.ptr 1 0),(6,.ptr 2 0),(7,nI k),(15,.ptr 0 3),(16,.imm (t.names.map aa.str)),(17,nI k),(18,.pimm [.str (t.names.getD k [])] 0),(19,.str (t.names.getD k [])),(20,.str s),(21,.bool (aY (t.names.getD k []) s)),(22,.bool (aY (t.names.getD k []) s))] [t.bx,x.bx,.box zC]
 by_cases hb2:(aY (t.names.getD k []) s)=true
 apply qt (hb2)
 apply qK
 apply qz [(1,.str s),(3,.ptr 0 0),(5,.ptr 1 0),(6,.ptr 2 0),(7,nI k),(15,.ptr 0 3),(16,.imm (t.names.map aa.str)),(17,nI k),(18,.pimm [.str (t.names.getD k [])] 0),(19,.str (t.names.getD k [])),(20,.str s),(21,.bool (aY (t.names.getD k []) s))]
 apply qB 1
 apply qo
 apply qr 1
 refine qy (aN (a:=((k:Nat):Int)) (b:=1) kq oq oq) ?_ ?_ ?_
 apply qr 1
 apply qe
 apply aj
 refine ab ⟨k+1,?_,?_,⟨⟨kq,kq,kq,kq,kq,trivial⟩,by simp [aQ,aa.bel],by simp,kq,by simp [af.belO]⟩⟩
 · omega
 · refine ⟨by omega,fun i hi=>?_⟩
   rcases Nat.lt_succ_iff_lt_or_eq.1 hi with h|h
   · exact ha i h
   · subst h;assumption
 iterate 11 kernel_rfl
 apply qf (Bool.eq_false_iff.2 hb2)
 refine bn 0 kq kq ?_
 apply ae
 apply ae
 apply ay
 apply ab
 apply qz [(1,.str s),(3,.ptr 0 0),(5,.ptr 1 0),(6,.ptr 2 0),(7,nI k)]
 apply qW 5 [(1,.str s),(3,.ptr 0 0),(5,.ptr 1 0),(6,.ptr 2 0),(7,nI k),(8,.ptr 3 0)] [t.bx,x.bx,.box zC,.box [.int .i64 5,.str [],.int .i64 (t.n),.full [],.full []]]
 refine mh 3 3 1 (cs:=[.int .i64 5,.str [],.int .i64 (t.n),.full [],.full []]) [.int .i64 5,.str [],.int .i64 (t.n),.own 4 0 0,.full []] dq kq kq kq ?_
 refine mh 3 4 5 (cs:=[.int .i64 5,.str [],.int .i64 (t.n),.own 4 0 0,.full []]) [.int .i64 5,.str [],.int .i64 (t.n),.own 4 0 0,.own 5 0 0] dq kq kq kq ?_
 apply qZ [(1,.str s),(3,.ptr 0 0),(5,.ptr 1 0),(6,.ptr 2 0),(7,nI k),(8,.ptr 3 0)] [t.bx,x.bx,.box zC,.box [.int .i64 5,.str [],.int .i64 (t.n),.own 4 0 0,.own 5 0 0],.arr 1 (([]:List (List UInt8)).map aa.str) 0,.arr 5 (([]:List (Ty)).map Ty.enc) 0]
 apply ao
 refine cR cxM kq aJ (bq ?_)
 apply qu 5
 refine qd (fo (lo:=none) (hi:=(some (.int .i64 ((k:Nat):Int)))) (l:=t.names) (enc:=aa.str) (x:=0) (y:=((k:Nat):Int)) kq bi ty9 (fun _=>rfl) kq kq oq oq oq) ?_ ?_ ?_ ?_
 refine qD (bc (o:=4) (len:=0) (l:=([]:List (List UInt8))) (xs:=((t.names.take k).drop 0)) (enc:=aa.str) (sz:=1) (fr:=0) (x:=(.imm (((t.names.take k).drop 0).map aa.str))) kq bi ty9 bi rfl kq rfl rfl kq ⟨by decide,by kernel_rfl⟩ (fun _=>rfl) fO fO) ?_ ?_ ?_ ?_
 apply qu 2
 refine qD (bc (o:=4) (len:=((([]:List (List UInt8))++((t.names.take k).drop 0)).length)) (l:=(([]:List (List UInt8))++((t.names.take k).drop 0))) (xs:=[s]) (enc:=aa.str) (sz:=1) (fr:=0) (x:=(.full [.str s])) kq bi ty9 bi rfl kq rfl rfl kq ⟨by decide,by kernel_rfl⟩ (fun _=>rfl) fO fO) ?_ ?_ ?_ ?_
 apply qu 3
 refine qd (fo (lo:=(some (.int .i64 ((k:Nat):Int)))) (hi:=none) (l:=t.names) (enc:=aa.str) (x:=((k:Nat):Int)) (y:=((t.names.length:Nat):Int)) kq bi ty9 (fun _=>rfl) kq kq oq oq oq) ?_ ?_ ?_ ?_
 refine qD (bc (o:=4) (len:=(((([]:List (List UInt8))++((t.names.take k).drop 0))++[s]).length)) (l:=((([]:List (List UInt8))++((t.names.take k).drop 0))++[s])) (xs:=((t.names.take t.names.length).drop k)) (enc:=aa.str) (sz:=1) (fr:=0) (x:=(.imm (((t.names.take t.names.length).drop k).map aa.str))) kq bi ty9 bi rfl kq rfl rfl kq ⟨by decide,by kernel_rfl⟩ (fun _=>rfl) fO fO) ?_ ?_ ?_ ?_
 apply qu 2
 refine cq kq ⟨kq,?_⟩
 apply ab
 apply qZ [(3,.ptr 0 0),(5,.ptr 1 0),(6,.ptr 2 0),(7,nI k),(8,.ptr 3 0)] [t.bx,x.bx,.box zC,.box [.int .i64 5,.str [],.int .i64 (t.n),.own 4 0 (((([]:List (List UInt8))++((t.names.take k).drop 0))++[s])++((t.names.take t.names.length).drop k)).length,.own 5 0 0],.arr 1 ((((([]:List (List UInt8))++((t.names.take k).drop 0))++[s])++((t.names.take t.names.length).drop k)).map aa.str) 0,.arr 5 (([]:List (Ty)).map Ty.enc) 0]
 apply ao
 refine cR cxM kq aJ (bq ?_)
 apply qu 5
 refine qd (fo (lo:=none) (hi:=(some (.int .i64 ((k:Nat):Int)))) (l:=t.kids) (enc:=Ty.enc) (x:=0) (y:=((k:Nat):Int)) kq ba bV bk kq kq oq oq oq) ?_ ?_ ?_ ?_
 refine qD (bc (o:=5) (len:=0) (l:=([]:List (Ty))) (xs:=((t.kids.take k).drop 0)) (enc:=Ty.enc) (sz:=5) (fr:=0) (x:=(.imm (((t.kids.take k).drop 0).map Ty.enc))) kq ba bV ba rfl kq rfl rfl kq ⟨by decide,by kernel_rfl⟩ gZ fO fO) ?_ ?_ ?_ ?_
 apply qu 2
 refine qD (bc (o:=5) (len:=((([]:List (Ty))++((t.kids.take k).drop 0)).length)) (l:=(([]:List (Ty))++((t.kids.take k).drop 0))) (xs:=[x]) (enc:=Ty.enc) (sz:=5) (fr:=0) (x:=(.full [.agg [.int .i64 (x.kind),.str x.name,.int .i64 (x.n),.imm (x.names.map aa.str),.imm (x.kids.map Ty.enc)]])) kq ba bV ba rfl kq rfl rfl (Eq.trans (b:=some [Ty.v x]) kq (by simp [Ty.enc_v])) ⟨by decide,by kernel_rfl⟩ gZ fO fO) ?_ ?_ ?_ ?_
 apply qu 3
 refine qd (fo (lo:=(some (.int .i64 ((k:Nat):Int)))) (hi:=none) (l:=t.kids) (enc:=Ty.enc) (x:=((k:Nat):Int)) (y:=((t.kids.length:Nat):Int)) kq ba bV bk kq kq oq oq oq) ?_ ?_ ?_ ?_
 refine qD (bc (o:=5) (len:=(((([]:List (Ty))++((t.kids.take k).drop 0))++[x]).length)) (l:=((([]:List (Ty))++((t.kids.take k).drop 0))++[x])) (xs:=((t.kids.take t.kids.length).drop k)) (enc:=Ty.enc) (sz:=5) (fr:=0) (x:=(.imm (((t.kids.take t.kids.length).drop k).map Ty.enc))) kq ba bV ba rfl kq rfl rfl kq ⟨by decide,by kernel_rfl⟩ gZ fO fO) ?_ ?_ ?_ ?_
 apply qu 2
 refine cq kq ⟨kq,?_⟩
 apply ab
 apply qZ [(6,.ptr 2 0),(8,.ptr 3 0)] [t.bx,x.bx,.box zC,.box [.int .i64 5,.str [],.int .i64 (t.n),.own 4 0 (((([]:List (List UInt8))++((t.names.take k).drop 0))++[s])++((t.names.take t.names.length).drop k)).length,.own 5 0 (((([]:List (Ty))++((t.kids.take k).drop 0))++[x])++((t.kids.take t.kids.length).drop k)).length],.arr 1 ((((([]:List (List UInt8))++((t.names.take k).drop 0))++[s])++((t.names.take t.names.length).drop k)).map aa.str) 0,.arr 5 ((((([]:List (Ty))++((t.kids.take k).drop 0))++[x])++((t.kids.take t.kids.length).drop k)).map Ty.enc) 0]
 refine n8 3 3 4 (cs:=[.int .i64 5,.str [],.int .i64 (t.n),.own 4 0 (((([]:List (List UInt8))++((t.names.take k).drop 0))++[s])++((t.names.take t.names.length).drop k)).length,.own 5 0 (((([]:List (Ty))++((t.kids.take k).drop 0))++[x])++((t.kids.take t.kids.length).drop k)).length]) (es:=((((([]:List (List UInt8))++((t.names.take k).drop 0))++[s])++((t.names.take t.names.length).drop k)).map aa.str)) (off:=0) (len:=((((([]:List (List UInt8))++((t.names.take k).drop 0))++[s])++((t.names.take t.names.length).drop k)).length)) (sz:=1) (fr:=0) [.int .i64 5,.str [],.int .i64 (t.n),.imm ((((([]:List (List UInt8))++((t.names.take k).drop 0))++[s])++((t.names.take t.names.length).drop k)).map aa.str),.own 5 0 (((([]:List (Ty))++((t.kids.take k).drop 0))++[x])++((t.kids.take t.kids.length).drop k)).length] ((((([]:List (List UInt8))++((t.names.take k).drop 0))++[s])++((t.names.take t.names.length).drop k)).map aa.str) dq kq kq kq zq kq kq ?_
 apply qZ [(6,.ptr 2 0),(8,.ptr 3 0)] [t.bx,x.bx,.box zC,.box [.int .i64 5,.str [],.int .i64 (t.n),.imm ((((([]:List (List UInt8))++((t.names.take k).drop 0))++[s])++((t.names.take t.names.length).drop k)).map aa.str),.own 5 0 (((([]:List (Ty))++((t.kids.take k).drop 0))++[x])++((t.kids.take t.kids.length).drop k)).length],.arr 1 ((((([]:List (List UInt8))++((t.names.take k).drop 0))++[s])++((t.names.take t.names.length).drop k)).map aa.str) ((((([]:List (List UInt8))++((t.names.take k).drop 0))++[s])++((t.names.take t.names.length).drop k)).map aa.str).length,.arr 5 ((((([]:List (Ty))++((t.kids.take k).drop 0))++[x])++((t.kids.take t.kids.length).drop k)).map Ty.enc) 0]
 apply qW 2 [(6,.ptr 2 0)] [t.bx,x.bx,.box [.int .i64 5,.str [],.int .i64 (t.n),.imm ((((([]:List (List UInt8))++((t.names.take k).drop 0))++[s])++((t.names.take t.names.length).drop k)).map aa.str),.own 5 0 (((([]:List (Ty))++((t.kids.take k).drop 0))++[x])++((t.kids.take t.kids.length).drop k)).length],.box [.int .i64 5,.str [],.int .i64 (t.n),.imm ((((([]:List (List UInt8))++((t.names.take k).drop 0))++[s])++((t.names.take t.names.length).drop k)).map aa.str),.own 5 0 (((([]:List (Ty))++((t.kids.take k).drop 0))++[x])++((t.kids.take t.kids.length).drop k)).length],.arr 1 ((((([]:List (List UInt8))++((t.names.take k).drop 0))++[s])++((t.names.take t.names.length).drop k)).map aa.str) ((((([]:List (List UInt8))++((t.names.take k).drop 0))++[s])++((t.names.take t.names.length).drop k)).map aa.str).length,.arr 5 ((((([]:List (Ty))++((t.kids.take k).drop 0))++[x])++((t.kids.take t.kids.length).drop k)).map Ty.enc) 0]
 refine ya [5,2] [(6,.ptr 1 0)] [.arr 5 ((((([]:List (Ty))++((t.kids.take k).drop 0))++[x])++((t.kids.take t.kids.length).drop k)).map Ty.enc) 0,.box [.int .i64 5,.str [],.int .i64 (t.n),.imm ((((([]:List (List UInt8))++((t.names.take k).drop 0))++[s])++((t.names.take t.names.length).drop k)).map aa.str),.own 0 0 (((([]:List (Ty))++((t.kids.take k).drop 0))++[x])++((t.kids.take t.kids.length).drop k)).length]] dq wC wC wC wC ?_
 apply qZ [(6,.ptr 1 0)] [.arr 5 ((((([]:List (Ty))++((t.kids.take k).drop 0))++[x])++((t.kids.take t.kids.length).drop k)).map Ty.enc) 0,.box [.int .i64 5,.str [],.int .i64 (t.n),.imm ((((([]:List (List UInt8))++((t.names.take k).drop 0))++[s])++((t.names.take t.names.length).drop k)).map aa.str),.own 0 0 (((([]:List (Ty))++((t.kids.take k).drop 0))++[x])++((t.kids.take t.kids.length).drop k)).length]]
 refine a8 kq ?_
 refine ee (l:=[.agg [.int .i64 5,.str [],.int .i64 (t.n),.imm ((((([]:List (List UInt8))++((t.names.take k).drop 0))++[s])++((t.names.take t.names.length).drop k)).map aa.str),.own 0 0 (((([]:List (Ty))++((t.kids.take k).drop 0))++[x])++((t.kids.take t.kids.length).drop k)).length]]) 1 [.arr 5 ((((([]:List (Ty))++((t.kids.take k).drop 0))++[x])++((t.kids.take t.kids.length).drop k)).map Ty.enc) 0] iq kq (Nat.zero_le _) kq Jb Iv ?_
 rotate_left
 iterate 54 kernel_rfl
 apply qm [13,14] (decide_eq_false hb1)
 apply qR 8 [(1,.str s),(3,.ptr 0 0),(5,.ptr 1 0),(6,.ptr 2 0),(7,nI k),(15,.tup []),(16,.tup []),(17,.tup []),(18,.tup []),(19,.tup []),(20,.tup []),(21,.tup []),(22,.bool false)] [t.bx,x.bx,.box zC]
 refine d5 kq kq ?_
 refine bn 0 kq kq ?_
 apply ae
 apply ae
 apply ay
 apply ab
 apply qz [(1,.str s),(3,.ptr 0 0),(5,.ptr 1 0),(6,.ptr 2 0),(7,nI k)]
 apply qW 5 [(1,.str s),(3,.ptr 0 0),(5,.ptr 1 0),(6,.ptr 2 0),(7,nI k),(8,.ptr 3 0)] [t.bx,x.bx,.box zC,.box [.int .i64 5,.str [],.int .i64 (t.n),.full [],.full []]]
 refine mh 3 3 1 (cs:=[.int .i64 5,.str [],.int .i64 (t.n),.full [],.full []]) [.int .i64 5,.str [],.int .i64 (t.n),.own 4 0 0,.full []] dq kq kq kq ?_
 refine mh 3 4 5 (cs:=[.int .i64 5,.str [],.int .i64 (t.n),.own 4 0 0,.full []]) [.int .i64 5,.str [],.int .i64 (t.n),.own 4 0 0,.own 5 0 0] dq kq kq kq ?_
 apply qZ [(1,.str s),(3,.ptr 0 0),(5,.ptr 1 0),(6,.ptr 2 0),(7,nI k),(8,.ptr 3 0)] [t.bx,x.bx,.box zC,.box [.int .i64 5,.str [],.int .i64 (t.n),.own 4 0 0,.own 5 0 0],.arr 1 (([]:List (List UInt8)).map aa.str) 0,.arr 5 (([]:List (Ty)).map Ty.enc) 0]
 apply ao
 refine cR cxM kq aJ (bq ?_)
 apply qu 5
 refine qd (fo (lo:=none) (hi:=(some (.int .i64 ((k:Nat):Int)))) (l:=t.names) (enc:=aa.str) (x:=0) (y:=((k:Nat):Int)) kq bi ty9 (fun _=>rfl) kq kq oq oq oq) ?_ ?_ ?_ ?_
 refine qD (bc (o:=4) (len:=0) (l:=([]:List (List UInt8))) (xs:=((t.names.take k).drop 0)) (enc:=aa.str) (sz:=1) (fr:=0) (x:=(.imm (((t.names.take k).drop 0).map aa.str))) kq bi ty9 bi rfl kq rfl rfl kq ⟨by decide,by kernel_rfl⟩ (fun _=>rfl) fO fO) ?_ ?_ ?_ ?_
 apply qu 2
 refine qD (bc (o:=4) (len:=((([]:List (List UInt8))++((t.names.take k).drop 0)).length)) (l:=(([]:List (List UInt8))++((t.names.take k).drop 0))) (xs:=[s]) (enc:=aa.str) (sz:=1) (fr:=0) (x:=(.full [.str s])) kq bi ty9 bi rfl kq rfl rfl kq ⟨by decide,by kernel_rfl⟩ (fun _=>rfl) fO fO) ?_ ?_ ?_ ?_
 apply qu 3
 refine qd (fo (lo:=(some (.int .i64 ((k:Nat):Int)))) (hi:=none) (l:=t.names) (enc:=aa.str) (x:=((k:Nat):Int)) (y:=((t.names.length:Nat):Int)) kq bi ty9 (fun _=>rfl) kq kq oq oq oq) ?_ ?_ ?_ ?_
 refine qD (bc (o:=4) (len:=(((([]:List (List UInt8))++((t.names.take k).drop 0))++[s]).length)) (l:=((([]:List (List UInt8))++((t.names.take k).drop 0))++[s])) (xs:=((t.names.take t.names.length).drop k)) (enc:=aa.str) (sz:=1) (fr:=0) (x:=(.imm (((t.names.take t.names.length).drop k).map aa.str))) kq bi ty9 bi rfl kq rfl rfl kq ⟨by decide,by kernel_rfl⟩ (fun _=>rfl) fO fO) ?_ ?_ ?_ ?_
 apply qu 2
 refine cq kq ⟨kq,?_⟩
 apply ab
 apply qZ [(3,.ptr 0 0),(5,.ptr 1 0),(6,.ptr 2 0),(7,nI k),(8,.ptr 3 0)] [t.bx,x.bx,.box zC,.box [.int .i64 5,.str [],.int .i64 (t.n),.own 4 0 (((([]:List (List UInt8))++((t.names.take k).drop 0))++[s])++((t.names.take t.names.length).drop k)).length,.own 5 0 0],.arr 1 ((((([]:List (List UInt8))++((t.names.take k).drop 0))++[s])++((t.names.take t.names.length).drop k)).map aa.str) 0,.arr 5 (([]:List (Ty)).map Ty.enc) 0]
 apply ao
 refine cR cxM kq aJ (bq ?_)
 apply qu 5
 refine qd (fo (lo:=none) (hi:=(some (.int .i64 ((k:Nat):Int)))) (l:=t.kids) (enc:=Ty.enc) (x:=0) (y:=((k:Nat):Int)) kq ba bV bk kq kq oq oq oq) ?_ ?_ ?_ ?_
 refine qD (bc (o:=5) (len:=0) (l:=([]:List (Ty))) (xs:=((t.kids.take k).drop 0)) (enc:=Ty.enc) (sz:=5) (fr:=0) (x:=(.imm (((t.kids.take k).drop 0).map Ty.enc))) kq ba bV ba rfl kq rfl rfl kq ⟨by decide,by kernel_rfl⟩ gZ fO fO) ?_ ?_ ?_ ?_
 apply qu 2
 refine qD (bc (o:=5) (len:=((([]:List (Ty))++((t.kids.take k).drop 0)).length)) (l:=(([]:List (Ty))++((t.kids.take k).drop 0))) (xs:=[x]) (enc:=Ty.enc) (sz:=5) (fr:=0) (x:=(.full [.agg [.int .i64 (x.kind),.str x.name,.int .i64 (x.n),.imm (x.names.map aa.str),.imm (x.kids.map Ty.enc)]])) kq ba bV ba rfl kq rfl rfl (Eq.trans (b:=some [Ty.v x]) kq (by simp [Ty.enc_v])) ⟨by decide,by kernel_rfl⟩ gZ fO fO) ?_ ?_ ?_ ?_
 apply qu 3
 refine qd (fo (lo:=(some (.int .i64 ((k:Nat):Int)))) (hi:=none) (l:=t.kids) (enc:=Ty.enc) (x:=((k:Nat):Int)) (y:=((t.kids.length:Nat):Int)) kq ba bV bk kq kq oq oq oq) ?_ ?_ ?_ ?_
 refine qD (bc (o:=5) (len:=(((([]:List (Ty))++((t.kids.take k).drop 0))++[x]).length)) (l:=((([]:List (Ty))++((t.kids.take k).drop 0))++[x])) (xs:=((t.kids.take t.kids.length).drop k)) (enc:=Ty.enc) (sz:=5) (fr:=0) (x:=(.imm (((t.kids.take t.kids.length).drop k).map Ty.enc))) kq ba bV ba rfl kq rfl rfl kq ⟨by decide,by kernel_rfl⟩ gZ fO fO) ?_ ?_ ?_ ?_
 apply qu 2
 refine cq kq ⟨kq,?_⟩
 apply ab
 apply qZ [(6,.ptr 2 0),(8,.ptr 3 0)] [t.bx,x.bx,.box zC,.box [.int .i64 5,.str [],.int .i64 (t.n),.own 4 0 (((([]:List (List UInt8))++((t.names.take k).drop 0))++[s])++((t.names.take t.names.length).drop k)).length,.own 5 0 (((([]:List (Ty))++((t.kids.take k).drop 0))++[x])++((t.kids.take t.kids.length).drop k)).length],.arr 1 ((((([]:List (List UInt8))++((t.names.take k).drop 0))++[s])++((t.names.take t.names.length).drop k)).map aa.str) 0,.arr 5 ((((([]:List (Ty))++((t.kids.take k).drop 0))++[x])++((t.kids.take t.kids.length).drop k)).map Ty.enc) 0]
 refine n8 3 3 4 (cs:=[.int .i64 5,.str [],.int .i64 (t.n),.own 4 0 (((([]:List (List UInt8))++((t.names.take k).drop 0))++[s])++((t.names.take t.names.length).drop k)).length,.own 5 0 (((([]:List (Ty))++((t.kids.take k).drop 0))++[x])++((t.kids.take t.kids.length).drop k)).length]) (es:=((((([]:List (List UInt8))++((t.names.take k).drop 0))++[s])++((t.names.take t.names.length).drop k)).map aa.str)) (off:=0) (len:=((((([]:List (List UInt8))++((t.names.take k).drop 0))++[s])++((t.names.take t.names.length).drop k)).length)) (sz:=1) (fr:=0) [.int .i64 5,.str [],.int .i64 (t.n),.imm ((((([]:List (List UInt8))++((t.names.take k).drop 0))++[s])++((t.names.take t.names.length).drop k)).map aa.str),.own 5 0 (((([]:List (Ty))++((t.kids.take k).drop 0))++[x])++((t.kids.take t.kids.length).drop k)).length] ((((([]:List (List UInt8))++((t.names.take k).drop 0))++[s])++((t.names.take t.names.length).drop k)).map aa.str) dq kq kq kq zq kq kq ?_
 apply qZ [(6,.ptr 2 0),(8,.ptr 3 0)] [t.bx,x.bx,.box zC,.box [.int .i64 5,.str [],.int .i64 (t.n),.imm ((((([]:List (List UInt8))++((t.names.take k).drop 0))++[s])++((t.names.take t.names.length).drop k)).map aa.str),.own 5 0 (((([]:List (Ty))++((t.kids.take k).drop 0))++[x])++((t.kids.take t.kids.length).drop k)).length],.arr 1 ((((([]:List (List UInt8))++((t.names.take k).drop 0))++[s])++((t.names.take t.names.length).drop k)).map aa.str) ((((([]:List (List UInt8))++((t.names.take k).drop 0))++[s])++((t.names.take t.names.length).drop k)).map aa.str).length,.arr 5 ((((([]:List (Ty))++((t.kids.take k).drop 0))++[x])++((t.kids.take t.kids.length).drop k)).map Ty.enc) 0]
 apply qW 2 [(6,.ptr 2 0)] [t.bx,x.bx,.box [.int .i64 5,.str [],.int .i64 (t.n),.imm ((((([]:List (List UInt8))++((t.names.take k).drop 0))++[s])++((t.names.take t.names.length).drop k)).map aa.str),.own 5 0 (((([]:List (Ty))++((t.kids.take k).drop 0))++[x])++((t.kids.take t.kids.length).drop k)).length],.box [.int .i64 5,.str [],.int .i64 (t.n),.imm ((((([]:List (List UInt8))++((t.names.take k).drop 0))++[s])++((t.names.take t.names.length).drop k)).map aa.str),.own 5 0 (((([]:List (Ty))++((t.kids.take k).drop 0))++[x])++((t.kids.take t.kids.length).drop k)).length],.arr 1 ((((([]:List (List UInt8))++((t.names.take k).drop 0))++[s])++((t.names.take t.names.length).drop k)).map aa.str) ((((([]:List (List UInt8))++((t.names.take k).drop 0))++[s])++((t.names.take t.names.length).drop k)).map aa.str).length,.arr 5 ((((([]:List (Ty))++((t.kids.take k).drop 0))++[x])++((t.kids.take t.kids.length).drop k)).map Ty.enc) 0]
 refine ya [5,2] [(6,.ptr 1 0)] [.arr 5 ((((([]:List (Ty))++((t.kids.take k).drop 0))++[x])++((t.kids.take t.kids.length).drop k)).map Ty.enc) 0,.box [.int .i64 5,.str [],.int .i64 (t.n),.imm ((((([]:List (List UInt8))++((t.names.take k).drop 0))++[s])++((t.names.take t.names.length).drop k)).map aa.str),.own 0 0 (((([]:List (Ty))++((t.kids.take k).drop 0))++[x])++((t.kids.take t.kids.length).drop k)).length]] dq wC wC wC wC ?_
 apply qZ [(6,.ptr 1 0)] [.arr 5 ((((([]:List (Ty))++((t.kids.take k).drop 0))++[x])++((t.kids.take t.kids.length).drop k)).map Ty.enc) 0,.box [.int .i64 5,.str [],.int .i64 (t.n),.imm ((((([]:List (List UInt8))++((t.names.take k).drop 0))++[s])++((t.names.take t.names.length).drop k)).map aa.str),.own 0 0 (((([]:List (Ty))++((t.kids.take k).drop 0))++[x])++((t.kids.take t.kids.length).drop k)).length]]
 refine a8 kq ?_
 refine ee (l:=[.agg [.int .i64 5,.str [],.int .i64 (t.n),.imm ((((([]:List (List UInt8))++((t.names.take k).drop 0))++[s])++((t.names.take t.names.length).drop k)).map aa.str),.own 0 0 (((([]:List (Ty))++((t.kids.take k).drop 0))++[x])++((t.kids.take t.kids.length).drop k)).length]]) 1 [.arr 5 ((((([]:List (Ty))++((t.kids.take k).drop 0))++[x])++((t.kids.take t.kids.length).drop k)).map Ty.enc) 0] iq kq (Nat.zero_le _) kq Jb Iv ?_
 rotate_left
 iterate 61 kernel_rfl
 all_goals
  have hput:ig t.names s=k:=rF _ _ _ ha oq (fun hlt=>by first|exact Bool.eq_false_iff.2 aq|(exfalso;omega))
  refine ⟨?_,?_⟩
  · rw [rN];simp [o7,jT,hput,aK]
  · rw [mp];simp [o7,jT,hput]
def nms:List (List UInt8):=[[97],[98],[99],[105,100]]
theorem we:aC cx 43 [] (.imm (nms.map .str)):=yE
theorem FK:nms.length=4:=rfl
def j5 (k:Int):Ty:=if k=3 then .mk 3 [67,111,108,111,114] 0 [] [] else if k=4 then .mk 3 [83,104,97,112,101] 0 [] [] else .mk k [] 0 [] []
def nU (kid:Nat→Ty):Nat→Nat→Int→Ty→Ty
 | 0,_,_,o=>o
 | f+1,i,w,o=>nU kid f (i+1) (w.tdiv 2) (if w.tmod 2=1 then mQ o (nms.getD i []) (kid i) else o)
def y7:Ty:=.mk 5 [] 0 [] []
def bb (l:List Int):Nat→Nat→Ty
 | 0,q=>j5 ((ap l q 8).tmod 5)
 | d+1,q=>if ap l q 8<5 then j5 (ap l q 8) else if ap l q 8=5 then .mk 4 [] 0 [] [bb l d (q+1)]
  else nU (fun i=>bb l d (q+2+3 * i)) 4 0 (ap l (q+1) 16) y7
theorem AR (a b:List (List UInt8)):szS (a++b)=szS a+szS b:=by
 induction a with
 | nil=>simp [szS]
 | cons x a ih=>simp [szS,ih];omega
theorem uq (a b:List Ty):Ty.szL (a++b)=Ty.szL a+Ty.szL b:=by
 induction a with
 | nil=>simp [Ty.szL]
 | cons x a ih=>simp [Ty.szL,ih];omega
theorem uS (t:Ty) (s:List UInt8) (x:Ty):(mQ t s x).sz≤t.sz+s.length+1+x.sz+1:=by
 have e:=gT t
 have h1:szS t.names=szS (t.names.take (ig t.names s))+szS (t.names.drop (ig t.names s)):=by rw [← AR,List.take_append_drop]
 have h2:Ty.szL t.kids=Ty.szL (t.kids.take (ig t.names s))+Ty.szL (t.kids.drop (ig t.names s)):=by rw [← uq,List.take_append_drop]
 simp only [mQ,o7,jT,Ty.sz,AR,uq,szS,Ty.szL,List.length_nil]
 omega
theorem zV (t:Ty) (s:List UInt8) (x:Ty) (h:t.names.length=t.kids.length):(mQ t s x).names.length=(mQ t s x).kids.length:=by
 show (o7 t s).length=(jT t s x).length
 simp only [o7,jT,List.length_append,List.length_take,List.length_drop,h,List.length_cons,List.length_nil]
def bd:Nat→Nat
 | 0=>20
 | n+1=>4 * (bd n+10)+20
theorem zF (i:Nat):(nms.getD i []).length≤2:=by
 match i with
 | 0=>decide
 | 1=>decide
 | 2=>decide
 | 3=>decide
 | i+4=>simp [nms]
theorem Al (kid:Nat→Ty) (b:Nat) (hk:∀ i,(kid i).sz≤b):∀ f i w o,(nU kid f i w o).sz≤o.sz+f * (b+4)
 | 0,i,w,o=>by simp [nU]
 | f+1,i,w,o=>by
  have:=Al kid b hk f (i+1) (w.tdiv 2) (if w.tmod 2=1 then mQ o (nms.getD i []) (kid i) else o)
  simp only [nU]
  refine Nat.le_trans this ?_
  have e:(f+1) * (b+4)=f * (b+4)+(b+4):=Nat.succ_mul _ _
  rw [e]
  split
  · have h1:=uS o (nms.getD i []) (kid i)
    have h2:=hk i
    have h3:=zF i
    omega
  · omega
theorem vL (k:Int):(j5 k).sz≤20:=by
 unfold j5;split
 · decide
 · split
   · decide
   · simp [Ty.sz,szS,Ty.szL]
theorem qP (l:List Int):∀ d q,(bb l d q).sz≤bd d
 | 0,q=>vL _
 | d+1,q=>by
  have ih:=qP l d
  have hp:20≤bd (d+1):=by simp only [bd];omega
  unfold bb
  split
  · exact Nat.le_trans (vL _) hp
  · split
    · simp only [Ty.sz,szS,Ty.szL,bd,List.length_nil];have:=ih (q+1);omega
    · have:=Al (fun i=>bb l d (q+2+3 * i)) (bd d) (fun i=>ih _) 4 0 (ap l (q+1) 16) y7
      have e:y7.sz=1:=rfl
      simp only [bd];omega
theorem r9 (l:List Int) (d q:Nat) (h:d≤2):(bb l d q).sz≤10000:=by
 refine Nat.le_trans (qP l d q) ?_
 match d,h with
 | 0,_=>decide
 | 1,_=>decide
 | 2,_=>decide
def clQ (t:Ty) (v:aa) (h:ac):Prop:=(t.kind=5∧v=uF t∧h=uf t)∨(¬ t.kind=5∧v.frz h=t.v)
theorem vK (t:Ty):(uF t).frz (uf t)=t.v:=by simp [uF,uf,aa.frz,bf,Ty.v]
theorem FZ {t:Ty} {v:aa} {h:ac} (hq:clQ t v h):v.frz h=t.v:=by
 rcases hq with ⟨_,rfl,rfl⟩|⟨_,h1⟩
 · exact vK t
 · exact h1
theorem x9 {l:List Int} {q:Nat} {d:Int} {t:Ty} (h:ar cx 13 [.imm (l.map (.int .i64)),.int .i64 (q:Nat),.int .i64 d] [] (clQ t)):aC cx 13 [.imm (l.map (.int .i64)),.int .i64 (q:Nat),.int .i64 d] t.v:=g0 h (fun _ _=>FZ) zq
theorem kG (kid:Nat→Ty) (i:Nat) (w:Int) (o:Ty) (h:i<4):nU kid (4 - i) i w o=nU kid (4 - (i+1)) (i+1) (w.tdiv 2) (if w.tmod 2=1 then mQ o (nms.getD i []) (kid i) else o):=by
 rw [show 4 - i=(4 - (i+1))+1 by omega,nU]
theorem xQ {a i:Nat} (h:a≤1+i * 20000):a≤1+(i+1) * 20000:=Nat.le_trans h (Nat.add_le_add_left (Nat.mul_le_mul_right _ (Nat.le_succ i)) 1)
theorem FY {w:Int} (h:0≤w) (h1:w<16):0≤w.tdiv 2∧w.tdiv 2<16:=by
 rw [Int.tdiv_eq_ediv_of_nonneg h];omega
theorem tE {d:Int} (h:0<d):d.toNat=(d - 1).toNat+1:=by omega
theorem BP {l:List Int} {q:Nat} {d:Int} (h:d=0):bb l d.toNat q=j5 ((ap l q 8).tmod 5):=by rw [h];rfl
theorem BL {l:List Int} {q:Nat} {d:Int} (h:0<d) (h5:ap l q 8<5):bb l d.toNat q=j5 (ap l q 8):=by rw [tE h,bb,if_pos h5]
theorem BC {l:List Int} {q:Nat} {d:Int} (h:0<d) (h5:ap l q 8=5):bb l d.toNat q=.mk 4 [] 0 [] [bb l (d - 1).toNat (q+1)]:=by rw [tE h,bb,if_neg oq,if_pos h5]
theorem BU {l:List Int} {q:Nat} {d:Int} (h:0<d) (h5:5<ap l q 8):bb l d.toNat q=nU (fun i=>bb l (d - 1).toNat (q+2+3 * i)) 4 0 (ap l (q+1) 16) y7:=by rw [tE h,bb,if_neg oq,if_neg oq]
theorem xZ {t:Ty} {v:aa} {h:ac} {k:Int} (e:t=j5 k) (hk:0≤k∧k<5) (hv:v.frz h=(j5 k).v):clQ t v h:=by
 subst e
 refine .inr ⟨?_,hv⟩
 unfold j5;split
 · simp [Ty.kind]
 · split
   · simp [Ty.kind]
   · simp only [Ty.kind];omega
noncomputable def c13:Code:=aB Tryz.f13
theorem ol {p:Prop} (h:p:=by simp [-List.map_append,-List.map_take,-List.map_drop,-List.append_assoc,aa.refs,dE,af.refs,af.isIter,oO,Abs.renT,eY,m8,af.ren,aa.ren,b4,List.idxOf_cons]):p:=h
theorem jl {p:Prop} (h:p:=by simp [af.belO,-List.map_append,-List.map_take,-List.map_drop,-List.append_assoc]):p:=h
theorem jr {p:Prop} (h:p:=by simp [aK,-List.map_append,-List.map_take,-List.map_drop,-List.append_assoc]):p:=h
theorem vU {p:Prop} (h:p:=by simp [aa.frz,bf,aa.ren,b4,dZ,af.ren,bg,cd,aV,aa.owns,rN,mp,Ty.v]):p:=h
theorem GK {p:Prop} (h:p:=by simp [aK,aa.frz,bf,Ty.v,Ty.kind,Ty.name,Ty.n,Ty.names,Ty.kids,j5, *];done):p:=h
theorem zM {p:Prop} (h:p:=by simp [Ty.v,bh]):p:=h
theorem xT (l:List Int) (q:Nat) (d:Int) (hl:sg l) (hq:(q:Int)+100 * d≤1000000) (hd:0≤d∧d≤3):ar cx 13 [.imm (l.map iE),.int .i64 ((q:Nat):Int),.int .i64 (d)] [] (clQ (bb l d.toNat q)):=by
 induction hN:d.toNat using Nat.strongRecOn generalizing q d with|_ N ih =>
 rw [← hN]
 have ihP:∀ q':Nat,0<d→(q':Int)+100 * (d - 1)≤1000000→aC cx 13 [.imm (l.map (.int .i64)),.int .i64 (q':Nat),.int .i64 (d - 1)] (bb l (d - 1).toNat q').v:=fun q' h1 h2=>x9 (ih _ oq q' (d - 1) h2 oq rfl)
 have hnm:=FK
 have hpk:=d6 l q 8 dq
 have htm:=px hpk.1 (show (0:Int)<5 by decide)
 have hsm:=fun q=>r9 l (d - 1).toNat q oq
 refine dN (cx:=cx) 71 0 [(ResultVar.cell 6 25)] Tryz.func13 rfl rfl rfl rfl rfl zq ?_
 show wpA cx 71 0 (at_ c13 []) _ _ _
 apply qZ [(0,.imm (l.map iE)),(1,nI q),(2,.int .i64 (d))] []
 apply qW 1 [(0,.imm (l.map iE)),(1,nI q),(2,.int .i64 (d)),(6,.ptr 0 0)] [.box zC]
 apply qV 2
 refine bR (args:=[.imm (l.map iE),.int .i64 ((q:Nat):Int),.int .i64 8]) kq kq kq kq (iN l q 8 oq oq) (by simp [Ty.v,bo,Occ.v]) (by simp [Ty.v]) zM ?_
 have hv1:=d6 l q 8 dq
 apply qR 1 [(0,.imm (l.map iE)),(1,nI q),(2,.int .i64 (d)),(6,.ptr 0 0),(7,.int .i64 (ap l q 8))] [.box zC]
 apply ao
 apply qU 2 [(0,.imm (l.map iE)),(1,nI q),(2,.int .i64 (d)),(6,.ptr 0 0),(7,.int .i64 (ap l q 8)),(15,.bool ((d)==0))]
 by_cases hb2:(d)=0
 apply qt (beq_iff_eq.2 hb2)
 apply qo
 apply qr 1
 refine qy (AG (a:=(ap l q 8)) (b:=5) kq dq) ?_ ?_ ?_
 apply qR 1 [(0,.imm (l.map iE)),(1,nI q),(2,.int .i64 (d)),(6,.ptr 0 0),(7,.int .i64 ((ap l q 8).tmod 5))] [.box zC]
 apply ao
 apply qU 1 [(0,.imm (l.map iE)),(1,nI q),(2,.int .i64 (d)),(6,.ptr 0 0),(7,.int .i64 ((ap l q 8).tmod 5)),(18,.int .i64 ((ap l q 8).tmod 5))]
 apply qB 0
 apply ao
 apply qU 2 [(0,.imm (l.map iE)),(1,nI q),(2,.int .i64 (d)),(6,.ptr 0 0),(7,.int .i64 ((ap l q 8).tmod 5)),(18,.int .i64 ((ap l q 8).tmod 5)),(19,.bool (((ap l q 8).tmod 5)==0))]
 by_cases hb3:((ap l q 8).tmod 5)=0
 apply qt (beq_iff_eq.2 hb3)
 apply qK
 apply qz [(0,.imm (l.map iE)),(1,nI q),(2,.int .i64 (d)),(6,.ptr 0 0),(7,.int .i64 ((ap l q 8).tmod 5)),(18,.int .i64 ((ap l q 8).tmod 5)),(19,.bool (((ap l q 8).tmod 5)==0))]
 apply qt (beq_iff_eq.2 hb3)
 apply qW 3 [(6,.ptr 0 0)] [.box [.int .i64 ((ap l q 8).tmod 5),.str [],.int .i64 0,.full [],.full []]]
 refine a8 kq ?_
 apply iR
 apply aR
 refine ee (l:=[.agg [.int .i64 ((ap l q 8).tmod 5),.str [],.int .i64 0,.full [],.full []]]) 0 [] iq kq (Nat.zero_le _) kq jr jl ?_
 rotate_left
 iterate 5 kernel_rfl
 apply qf (beq_eq_false_iff_ne.2 hb3)
 apply qU 2 [(0,.imm (l.map iE)),(1,nI q),(2,.int .i64 (d)),(6,.ptr 0 0),(7,.int .i64 ((ap l q 8).tmod 5)),(18,.int .i64 ((ap l q 8).tmod 5)),(19,.bool (((ap l q 8).tmod 5)==1))]
 by_cases hb5:((ap l q 8).tmod 5)=1
 apply qt (beq_iff_eq.2 hb5)
 apply qK
 apply qz [(0,.imm (l.map iE)),(1,nI q),(2,.int .i64 (d)),(6,.ptr 0 0),(7,.int .i64 ((ap l q 8).tmod 5)),(18,.int .i64 ((ap l q 8).tmod 5)),(19,.bool (((ap l q 8).tmod 5)==1))]
 apply qt (beq_iff_eq.2 hb5)
 apply qW 3 [(6,.ptr 0 0)] [.box [.int .i64 ((ap l q 8).tmod 5),.str [],.int .i64 0,.full [],.full []]]
 refine a8 kq ?_
 apply iR
 apply aR
 refine ee (l:=[.agg [.int .i64 ((ap l q 8).tmod 5),.str [],.int .i64 0,.full [],.full []]]) 0 [] iq kq (Nat.zero_le _) kq jr jl ?_
 rotate_left
 iterate 5 kernel_rfl
 apply qf (beq_eq_false_iff_ne.2 hb5)
 apply qo
 apply qR 2 [(0,.imm (l.map iE)),(1,nI q),(2,.int .i64 (d)),(6,.ptr 0 0),(7,.int .i64 ((ap l q 8).tmod 5)),(18,.int .i64 ((ap l q 8).tmod 5)),(19,.bool (((ap l q 8).tmod 5)==2))] [.box zC]
 by_cases hb7:((ap l q 8).tmod 5)=2
 apply qt (beq_iff_eq.2 hb7)
 apply qW 3 [(6,.ptr 0 0)] [.box [.int .i64 ((ap l q 8).tmod 5),.str [],.int .i64 0,.full [],.full []]]
 refine a8 kq ?_
 apply iR
 apply aR
 refine ee (l:=[.agg [.int .i64 ((ap l q 8).tmod 5),.str [],.int .i64 0,.full [],.full []]]) 0 [] iq kq (Nat.zero_le _) kq jr jl ?_
 rotate_left
 iterate 2 kernel_rfl
 apply qf (beq_eq_false_iff_ne.2 hb7)
 apply qU 2 [(0,.imm (l.map iE)),(1,nI q),(2,.int .i64 (d)),(6,.ptr 0 0),(18,.int .i64 ((ap l q 8).tmod 5)),(25,.bool (((ap l q 8).tmod 5)==3))]
 by_cases hb8:((ap l q 8).tmod 5)=3
 apply qt (beq_iff_eq.2 hb8)
 apply qW 2 [(6,.ptr 0 0)] [.box [.int .i64 3,.str [67,111,108,111,114],.int .i64 0,.full [],.full []]]
 refine a8 kq ?_
 apply iR
 apply aR
 refine ee (l:=[.agg [.int .i64 3,.str [67,111,108,111,114],.int .i64 0,.full [],.full []]]) 0 [] iq kq (Nat.zero_le _) kq jr jl ?_
 rotate_left
 iterate 2 kernel_rfl
 apply qf (beq_eq_false_iff_ne.2 hb8)
 apply qU 2 [(0,.imm (l.map iE)),(1,nI q),(2,.int .i64 (d)),(6,.ptr 0 0),(18,.int .i64 ((ap l q 8).tmod 5)),(28,.bool (((ap l q 8).tmod 5)==4))]
 by_cases hb9:((ap l q 8).tmod 5)=4
 apply qt (beq_iff_eq.2 hb9)
 apply qW 2 [(6,.ptr 0 0)] [.box [.int .i64 3,.str [83,104,97,112,101],.int .i64 0,.full [],.full []]]
 refine a8 kq ?_
 apply iR
 apply aR
 refine ee (l:=[.agg [.int .i64 3,.str [83,104,97,112,101],.int .i64 0,.full [],.full []]]) 0 [] iq kq (Nat.zero_le _) kq jr jl ?_
 rotate_left
 iterate 2 kernel_rfl
 · exfalso;omega
 iterate 21 kernel_rfl
 apply qf (beq_eq_false_iff_ne.2 hb2)
 apply qK
 apply qz [(0,.imm (l.map iE)),(1,nI q),(2,.int .i64 (d)),(6,.ptr 0 0),(7,.int .i64 (ap l q 8))]
 apply ao
 apply qU 1 [(0,.imm (l.map iE)),(1,nI q),(2,.int .i64 (d)),(6,.ptr 0 0),(7,.int .i64 (ap l q 8)),(18,.int .i64 (ap l q 8))]
 apply qB 0
 apply ao
 apply qU 2 [(0,.imm (l.map iE)),(1,nI q),(2,.int .i64 (d)),(6,.ptr 0 0),(7,.int .i64 (ap l q 8)),(18,.int .i64 (ap l q 8)),(19,.bool ((ap l q 8)==0))]
 by_cases hb10:(ap l q 8)=0
 apply qt (beq_iff_eq.2 hb10)
 apply qK
 apply qz [(0,.imm (l.map iE)),(1,nI q),(2,.int .i64 (d)),(6,.ptr 0 0),(7,.int .i64 (ap l q 8)),(18,.int .i64 (ap l q 8)),(19,.bool ((ap l q 8)==0))]
 apply qt (beq_iff_eq.2 hb10)
 apply qW 3 [(6,.ptr 0 0)] [.box [.int .i64 (ap l q 8),.str [],.int .i64 0,.full [],.full []]]
 refine a8 kq ?_
 apply iR
 apply aR
 refine ee (l:=[.agg [.int .i64 (ap l q 8),.str [],.int .i64 0,.full [],.full []]]) 0 [] iq kq (Nat.zero_le _) kq jr jl ?_
 rotate_left
 iterate 5 kernel_rfl
 apply qf (beq_eq_false_iff_ne.2 hb10)
 apply qU 2 [(0,.imm (l.map iE)),(1,nI q),(2,.int .i64 (d)),(6,.ptr 0 0),(7,.int .i64 (ap l q 8)),(18,.int .i64 (ap l q 8)),(19,.bool ((ap l q 8)==1))]
 by_cases hb12:(ap l q 8)=1
 apply qt (beq_iff_eq.2 hb12)
 apply qK
 apply qz [(0,.imm (l.map iE)),(1,nI q),(2,.int .i64 (d)),(6,.ptr 0 0),(7,.int .i64 (ap l q 8)),(18,.int .i64 (ap l q 8)),(19,.bool ((ap l q 8)==1))]
 apply qt (beq_iff_eq.2 hb12)
 apply qW 3 [(6,.ptr 0 0)] [.box [.int .i64 (ap l q 8),.str [],.int .i64 0,.full [],.full []]]
 refine a8 kq ?_
 apply iR
 apply aR
 refine ee (l:=[.agg [.int .i64 (ap l q 8),.str [],.int .i64 0,.full [],.full []]]) 0 [] iq kq (Nat.zero_le _) kq jr jl ?_
 rotate_left
 iterate 5 kernel_rfl
 apply qf (beq_eq_false_iff_ne.2 hb12)
 apply qo
 apply qR 2 [(0,.imm (l.map iE)),(1,nI q),(2,.int .i64 (d)),(6,.ptr 0 0),(7,.int .i64 (ap l q 8)),(18,.int .i64 (ap l q 8)),(19,.bool ((ap l q 8)==2))] [.box zC]
 by_cases hb14:(ap l q 8)=2
 apply qt (beq_iff_eq.2 hb14)
 apply qW 3 [(6,.ptr 0 0)] [.box [.int .i64 (ap l q 8),.str [],.int .i64 0,.full [],.full []]]
 refine a8 kq ?_
 apply iR
 apply aR
 refine ee (l:=[.agg [.int .i64 (ap l q 8),.str [],.int .i64 0,.full [],.full []]]) 0 [] iq kq (Nat.zero_le _) kq jr jl ?_
 rotate_left
 iterate 2 kernel_rfl
 apply qf (beq_eq_false_iff_ne.2 hb14)
 apply qU 2 [(0,.imm (l.map iE)),(1,nI q),(2,.int .i64 (d)),(6,.ptr 0 0),(18,.int .i64 (ap l q 8)),(25,.bool ((ap l q 8)==3))]
 by_cases hb15:(ap l q 8)=3
 apply qt (beq_iff_eq.2 hb15)
 apply qW 2 [(6,.ptr 0 0)] [.box [.int .i64 3,.str [67,111,108,111,114],.int .i64 0,.full [],.full []]]
 refine a8 kq ?_
 apply iR
 apply aR
 refine ee (l:=[.agg [.int .i64 3,.str [67,111,108,111,114],.int .i64 0,.full [],.full []]]) 0 [] iq kq (Nat.zero_le _) kq jr jl ?_
 rotate_left
 iterate 2 kernel_rfl
 apply qf (beq_eq_false_iff_ne.2 hb15)
 apply qU 2 [(0,.imm (l.map iE)),(1,nI q),(2,.int .i64 (d)),(6,.ptr 0 0),(18,.int .i64 (ap l q 8)),(28,.bool ((ap l q 8)==4))]
 by_cases hb16:(ap l q 8)=4
 apply qt (beq_iff_eq.2 hb16)
 apply qW 2 [(6,.ptr 0 0)] [.box [.int .i64 3,.str [83,104,97,112,101],.int .i64 0,.full [],.full []]]
 refine a8 kq ?_
 apply iR
 apply aR
 refine ee (l:=[.agg [.int .i64 3,.str [83,104,97,112,101],.int .i64 0,.full [],.full []]]) 0 [] iq kq (Nat.zero_le _) kq jr jl ?_
 rotate_left
 iterate 2 kernel_rfl
 apply qf (beq_eq_false_iff_ne.2 hb16)
 apply qU 2 [(0,.imm (l.map iE)),(1,nI q),(2,.int .i64 (d)),(6,.ptr 0 0),(31,.bool ((ap l q 8)==5))]
 by_cases hb17:(ap l q 8)=5
 apply qt (beq_iff_eq.2 hb17)
 apply qV 2
 refine qy (aN (a:=((q:Nat):Int)) (b:=1) kq oq oq) ?_ ?_ ?_
 apply qr 1
 refine qy (AJ (a:=(d)) (b:=1) kq oq oq) ?_ ?_ ?_
 refine bR (args:=[.imm (l.map iE),.int .i64 (((q+1):Nat):Int),.int .i64 ((d) - 1)]) kq kq kq kq (ihP (q+1) oq oq) (by simp [Ty.v,bo,Occ.v]) (by simp [Ty.v]) zM ?_
 apply qR 3 [(6,.ptr 0 0)] [.box [.int .i64 4,.str [],.int .i64 0,.full [],.full [Ty.v (bb l (d - 1).toNat (q+1))]]]
 refine a8 kq ?_
 apply iR
 apply aR
 refine ee (l:=[.agg [.int .i64 4,.str [],.int .i64 0,.full [],.full [Ty.v (bb l (d - 1).toNat (q+1))]]]) 0 [] iq kq (Nat.zero_le _) kq jr jl ?_
 · rw [BC oq aq]
   exact .inr ⟨by simp [Ty.kind],by simp [aK,aa.frz,bf,Ty.v,Ty.kind,Ty.name,Ty.n,Ty.names,Ty.kids,Ty.enc_v]⟩
 iterate 8 kernel_rfl
 apply qf (beq_eq_false_iff_ne.2 hb17)
 apply qk
 apply aj
 apply ab
 apply qz [(0,.imm (l.map iE)),(1,nI q),(2,.int .i64 (d)),(6,.ptr 0 0)]
 apply qW 3 [(0,.imm (l.map iE)),(1,nI q),(2,.int .i64 (d)),(6,.ptr 0 0),(8,.ptr 1 0)] [.box zC,.box [.int .i64 5,.str [],.int .i64 0,.full [],.full []]]
 apply qV 2
 refine qy (aN (a:=((q:Nat):Int)) (b:=1) kq oq oq) ?_ ?_ ?_
 refine bR (args:=[.imm (l.map iE),.int .i64 (((q+1):Nat):Int),.int .i64 16]) kq kq kq kq (iN l (q+1) 16 oq oq) (by simp [Ty.v,bo,Occ.v]) (by simp [Ty.v]) zM ?_
 have hv18:=d6 l (q+1) 16 dq
 apply qR 1 [(0,.imm (l.map iE)),(1,nI q),(2,.int .i64 (d)),(6,.ptr 0 0),(8,.ptr 1 0),(9,.int .i64 (ap l (q+1) 16))] [.box zC,.box [.int .i64 5,.str [],.int .i64 0,.full [],.full []]]
 apply ao
 apply qU 1 [(0,.imm (l.map iE)),(1,nI q),(2,.int .i64 (d)),(6,.ptr 0 0),(8,.ptr 1 0),(9,.int .i64 (ap l (q+1) 16)),(10,.int .i64 0)]
 refine IZ 1 3 (cs:=[.int .i64 5,.str [],.int .i64 0,.full [],.full []]) (y:=.full []) [.int .i64 5,.str [],.int .i64 0,.imm [],.full []] kq kq zq (by simp [List.set,aa.frz,bf]) ?_
 refine mh 1 4 5 (cs:=[.int .i64 5,.str [],.int .i64 0,.imm [],.full []]) [.int .i64 5,.str [],.int .i64 0,.imm [],.own 2 0 0] dq kq kq kq ?_
 apply qZ [(0,.imm (l.map iE)),(1,nI q),(2,.int .i64 (d)),(6,.ptr 0 0),(8,.ptr 1 0),(9,.int .i64 (ap l (q+1) 16)),(10,.int .i64 0)] [.box zC,.box [.int .i64 5,.str [],.int .i64 0,.imm [],.own 2 0 0],.arr 5 (([]:List (Ty)).map Ty.enc) 0]
 apply qB 1
 refine bB (σ:=(Nat×Int×Ty)) (fun ⟨i,w,o⟩=>[(0,.imm (l.map iE)),(1,.int .i64 ((q:Nat):Int)),(2,.int .i64 (d)),(6,.ptr 0 0),(8,.ptr 1 0),(9,.int .i64 (w)),(10,.int .i64 ((i:Nat):Int))]) (fun ⟨i,w,o⟩=>[.box zC,.box [.int .i64 (o.kind),.str o.name,.int .i64 (o.n),.imm (o.names.map aa.str),.own 2 0 o.kids.length],.arr 5 (o.kids.map Ty.enc) 0]) (fun ⟨i,w,o⟩=>(i≤4∧0≤w∧w<16)∧(o.kind=5∧o.names.length=o.kids.length∧o.sz≤1+i * 20000)∧nU (fun i=>bb l (d - 1).toNat (q+2+3 * i)) (4 - i) i w o=bb l d.toNat q) (fun ⟨i,w,o⟩=>4 - i) (0,ap l (q+1) 16,y7) kq (by have:=d6 l (q+1) 16 dq;exact ⟨⟨by omega,this.1,this.2⟩,⟨rfl,rfl,by decide⟩,(BU oq oq).symm⟩) ⟨⟨kq,kq,kq,kq,kq,kq,kq,trivial⟩,by simp [aQ,aa.bel],by simp,kq,by simp [af.belO]⟩ ?_
 rintro ⟨i,w,o⟩ ⟨⟨hi,hw0,hw1⟩,⟨ho5,hnk,hosz⟩,hR⟩
 have hwd:=FY hw0 hw1
 apply qZ [(0,.imm (l.map iE)),(1,nI q),(2,.int .i64 (d)),(6,.ptr 0 0),(8,.ptr 1 0),(9,.int .i64 (w)),(10,nI i)] [.box zC,.box [.int .i64 (o.kind),.str o.name,.int .i64 (o.n),.imm (o.names.map aa.str),.own 2 0 o.kids.length],.arr 5 (o.kids.map Ty.enc) 0]
 apply ao
 apply qU 2 [(0,.imm (l.map iE)),(1,nI q),(2,.int .i64 (d)),(6,.ptr 0 0),(8,.ptr 1 0),(9,.int .i64 (w)),(10,nI i),(47,.bool (decide (((i:Nat):Int)<4)))]
 by_cases hb19:((i:Nat):Int)<4
 apply qt (decide_eq_true hb19)
 apply qK
 apply qz [(0,.imm (l.map iE)),(1,nI q),(2,.int .i64 (d)),(6,.ptr 0 0),(8,.ptr 1 0),(9,.int .i64 (w)),(10,nI i)]
 apply ao
 apply qB 2
 apply ao
 apply qV 1
 refine qy (AG (a:=(w)) (b:=2) kq dq) ?_ ?_ ?_
 apply qR 1 [(0,.imm (l.map iE)),(1,nI q),(2,.int .i64 (d)),(6,.ptr 0 0),(8,.ptr 1 0),(9,.int .i64 (w)),(10,nI i),(52,.bool (((w).tmod 2)==1))] [.box zC,.box [.int .i64 (o.kind),.str o.name,.int .i64 (o.n),.imm (o.names.map aa.str),.own 2 0 o.kids.length],.arr 5 (o.kids.map Ty.enc) 0]
 by_cases hb20:((w).tmod 2)=1
 apply qt (beq_iff_eq.2 hb20)
 refine cR cxM kq aJ (bq ?_)
 apply qu 1
 refine d4 (args:=[]) kq kq kq kq kq (we) (fun _=>kq) kq kq ?_
 apply qu 1
 refine qd (aA (k:=.i64) (l:=nms) (enc:=aa.str) (i:=((i:Nat):Int)) [] kq bi ty9 (fun _=>rfl) oq oq) ?_ ?_ ?_ ?_
 apply qu 3
 refine qd (aN (a:=((q:Nat):Int)) (b:=2) kq oq oq) ?_ ?_ ?_ ?_
 apply qu 1
 refine qd (xF (a:=3) (b:=((i:Nat):Int)) kq oq oq) ?_ ?_ ?_ ?_
 refine qd (aN (a:=(((q+2):Nat):Int)) (b:=(((3 * i):Nat):Int)) kq oq oq) ?_ ?_ ?_ ?_
 apply qu 1
 refine qd (AJ (a:=(d)) (b:=1) kq oq oq) ?_ ?_ ?_ ?_
 refine d4 (args:=[.imm (l.map iE),.int .i64 ((((q+2)+(3 * i)):Nat):Int),.int .i64 ((d) - 1)]) kq kq kq kq kq (ihP ((q+2)+(3 * i)) oq oq) (by intro _;simp [Ty.v,bo,Occ.v]) (by simp [Ty.v]) zM ?_
 refine uk (args:=[.agg [.int .i64 (o.kind),.str o.name,.int .i64 (o.n),.imm (o.names.map aa.str),.own 2 0 o.kids.length],.str (nms.getD i []),Ty.v (bb l (d - 1).toNat ((q+2)+(3 * i)))]) (args':=[Ty.v o,.str (nms.getD i []),Ty.v (bb l (d - 1).toNat ((q+2)+(3 * i)))]) (V':=.agg [.int .i64 5,.str [],.int .i64 (o.n),.imm ((o7 o (nms.getD i [])).map aa.str),.own 3 0 (jT o (nms.getD i []) (bb l (d - 1).toNat ((q+2)+(3 * i)))).length]) (F:=[.box zC,.box [.int .i64 (o.kind),.str o.name,.int .i64 (o.n),.imm (o.names.map aa.str),.own 2 0 o.kids.length],.arr 5 (o.kids.map Ty.enc) (o.kids.map Ty.enc).length]) (G':=[.arr 5 ((jT o (nms.getD i []) (bb l (d - 1).toNat ((q+2)+(3 * i)))).map Ty.enc) 0]) (L:=[2,3]) kq kq kq kq kq (F8 o (bb l (d - 1).toNat ((q+2)+(3 * i))) (nms.getD i []) oq (by have:=hsm (q+2+3 * i);omega) aq) [.box zC,.box [.int .i64 (o.kind),.str o.name,.int .i64 (o.n),.imm (o.names.map aa.str),.own 2 0 o.kids.length],.arr 5 (o.kids.map Ty.enc) 0] kq vU vU (by simp [mp]) vU vU vU (by simp [l8,aV,aa.owns,rN,mp,Ty.v]) ?_
 apply qu 1
 refine cq kq ⟨kq,?_⟩
 apply ab
 apply qZ [(0,.imm (l.map iE)),(1,nI q),(2,.int .i64 (d)),(6,.ptr 0 0),(8,.ptr 1 0),(9,.int .i64 (w)),(10,nI i)] [.box zC,.box [.int .i64 5,.str [],.int .i64 (o.n),.imm ((o7 o (nms.getD i [])).map aa.str),.own 3 0 (jT o (nms.getD i []) (bb l (d - 1).toNat ((q+2)+(3 * i)))).length],.arr 5 (o.kids.map Ty.enc) (o.kids.map Ty.enc).length,.arr 5 ((jT o (nms.getD i []) (bb l (d - 1).toNat ((q+2)+(3 * i)))).map Ty.enc) 0]
 refine ya [0,1,3] [(0,.imm (l.map iE)),(1,.int .i64 ((q:Nat):Int)),(2,.int .i64 (d)),(6,.ptr 0 0),(8,.ptr 1 0),(9,.int .i64 (w)),(10,.int .i64 ((i:Nat):Int))] [.box zC,.box [.int .i64 5,.str [],.int .i64 (o.n),.imm ((o7 o (nms.getD i [])).map aa.str),.own 2 0 (jT o (nms.getD i []) (bb l (d - 1).toNat ((q+2)+(3 * i)))).length],.arr 5 ((jT o (nms.getD i []) (bb l (d - 1).toNat ((q+2)+(3 * i)))).map Ty.enc) 0] dq ol ol ol ol ?_
 apply qZ [(0,.imm (l.map iE)),(1,nI q),(2,.int .i64 (d)),(6,.ptr 0 0),(8,.ptr 1 0),(9,.int .i64 (w)),(10,nI i)] [.box zC,.box [.int .i64 5,.str [],.int .i64 (o.n),.imm ((o7 o (nms.getD i [])).map aa.str),.own 2 0 (jT o (nms.getD i []) (bb l (d - 1).toNat ((q+2)+(3 * i)))).length],.arr 5 ((jT o (nms.getD i []) (bb l (d - 1).toNat ((q+2)+(3 * i)))).map Ty.enc) 0]
 apply qo
 apply qr 1
 refine qy (GJ (a:=(w)) (b:=2) kq dq oq oq) ?_ ?_ ?_
 apply qr 1
 apply qe
 apply aj
 apply ab
 apply qz [(0,.imm (l.map iE)),(1,nI q),(2,.int .i64 (d)),(6,.ptr 0 0),(8,.ptr 1 0),(9,.int .i64 ((w).tdiv 2)),(10,nI i)]
 apply qo
 apply qr 1
 refine qy (aN (a:=((i:Nat):Int)) (b:=1) kq oq oq) ?_ ?_ ?_
 apply qr 1
 apply qe
 refine ab ⟨(i+1,w.tdiv 2,(mQ o (nms.getD i []) (bb l (d - 1).toNat (q+2+3 * i)))),?_,?_,⟨⟨kq,kq,kq,kq,kq,kq,kq,trivial⟩,by simp [aQ,aa.bel],by simp,kq,by simp [af.belO]⟩⟩
 · try dsimp only
   omega
 · try dsimp only
   first|(refine ⟨⟨by omega,hwd.1,hwd.2⟩,⟨ho5,hnk,?_⟩,?_⟩;(exact xQ hosz);rw [← hR,kG _ i w o oq,if_neg aq];done)|(refine ⟨⟨by omega,hwd.1,hwd.2⟩,⟨rfl,zV _ _ _ hnk,?_⟩,?_⟩;(have h1:=uS o (nms.getD i []) (bb l (d - 1).toNat (q+2+3 * i));have h2:=hsm (q+2+3 * i);have h3:=zF i;omega);(rw [← hR,kG _ i w o oq,if_pos aq]);done)
 iterate 37 kernel_rfl
 apply qf (beq_eq_false_iff_ne.2 hb20)
 apply qK
 apply qz [(0,.imm (l.map iE)),(1,nI q),(2,.int .i64 (d)),(6,.ptr 0 0),(8,.ptr 1 0),(9,.int .i64 (w)),(10,nI i)]
 apply qo
 apply qr 1
 refine qy (GJ (a:=(w)) (b:=2) kq dq oq oq) ?_ ?_ ?_
 apply qr 1
 apply qe
 apply aj
 apply ab
 apply qz [(0,.imm (l.map iE)),(1,nI q),(2,.int .i64 (d)),(6,.ptr 0 0),(8,.ptr 1 0),(9,.int .i64 ((w).tdiv 2)),(10,nI i)]
 apply qo
 apply qr 1
 refine qy (aN (a:=((i:Nat):Int)) (b:=1) kq oq oq) ?_ ?_ ?_
 apply qr 1
 apply qe
 refine ab ⟨(i+1,w.tdiv 2,o),?_,?_,⟨⟨kq,kq,kq,kq,kq,kq,kq,trivial⟩,by simp [aQ,aa.bel],by simp,kq,by simp [af.belO]⟩⟩
 · try dsimp only
   omega
 · try dsimp only
   first|(refine ⟨⟨by omega,hwd.1,hwd.2⟩,⟨ho5,hnk,?_⟩,?_⟩;(exact xQ hosz);rw [← hR,kG _ i w o oq,if_neg aq];done)|(refine ⟨⟨by omega,hwd.1,hwd.2⟩,⟨rfl,zV _ _ _ hnk,?_⟩,?_⟩;(have h1:=uS o (nms.getD i []) (bb l (d - 1).toNat (q+2+3 * i));have h2:=hsm (q+2+3 * i);have h3:=zF i;omega);(rw [← hR,kG _ i w o oq,if_pos aq]);done)
 iterate 27 kernel_rfl
 apply qf (decide_eq_false hb19)
 refine bn 1 kq kq ?_
 apply ae
 apply ae
 apply ay
 apply ab
 apply qz [(6,.ptr 0 0),(8,.ptr 1 0)]
 apply qW 2 [(6,.ptr 0 0)] [.box [.int .i64 (o.kind),.str o.name,.int .i64 (o.n),.imm (o.names.map aa.str),.own 2 0 o.kids.length],.box [.int .i64 (o.kind),.str o.name,.int .i64 (o.n),.imm (o.names.map aa.str),.own 2 0 o.kids.length],.arr 5 (o.kids.map Ty.enc) 0]
 refine ya [2,0] [(6,.ptr 1 0)] [.arr 5 (o.kids.map Ty.enc) 0,.box [.int .i64 (o.kind),.str o.name,.int .i64 (o.n),.imm (o.names.map aa.str),.own 0 0 o.kids.length]] dq ol ol ol ol ?_
 apply qZ [(6,.ptr 1 0)] [.arr 5 (o.kids.map Ty.enc) 0,.box [.int .i64 (o.kind),.str o.name,.int .i64 (o.n),.imm (o.names.map aa.str),.own 0 0 o.kids.length]]
 refine a8 kq ?_
 refine ee (l:=[.agg [.int .i64 (o.kind),.str o.name,.int .i64 (o.n),.imm (o.names.map aa.str),.own 0 0 o.kids.length]]) 1 [.arr 5 (o.kids.map Ty.enc) 0] iq kq (Nat.zero_le _) kq jr jl ?_
 · rw [show 4 - i=0 by omega,nU] at hR
   rw [← hR]
   exact .inl ⟨ho5,rfl,rfl⟩
 iterate 46 kernel_rfl
 all_goals
  first|exact xZ (k:=(ap l q 8).tmod 5) (BP oq) oq GK|exact xZ (k:=ap l q 8) (BL oq oq) oq GK
@[simp] theorem Ty.kind_mk (k:Int) (x:List UInt8) (n:Int) (l:List (List UInt8)) (ks:List Ty):(Ty.mk k x n l ks).kind=k:=rfl
@[simp] theorem Ty.name_mk (k:Int) (x:List UInt8) (n:Int) (l:List (List UInt8)) (ks:List Ty):(Ty.mk k x n l ks).name=x:=rfl
@[simp] theorem Ty.n_mk (k:Int) (x:List UInt8) (n:Int) (l:List (List UInt8)) (ks:List Ty):(Ty.mk k x n l ks).n=n:=rfl
@[simp] theorem Ty.names_mk (k:Int) (x:List UInt8) (n:Int) (l:List (List UInt8)) (ks:List Ty):(Ty.mk k x n l ks).names=l:=rfl
@[simp] theorem Ty.kids_mk (k:Int) (x:List UInt8) (n:Int) (l:List (List UInt8)) (ks:List Ty):(Ty.mk k x n l ks).kids=ks:=rfl
theorem t8 (t:Ty):t.enc.cells.length=5∧t.enc.cells.all aa.cellOk=true:=by rw [aU];exact ⟨rfl,rfl⟩
theorem py (p q:Ty):p.enc.withCells q.enc.cells=some q.enc:=by rw [Ty.enc_v,Ty.enc_v];rfl
theorem A3 {l:List aa} {h:ac} {r:aa×ac} (hr:r∈(bif l.isEmpty then [true,false] else [false]).map fun b=>((.bool b:aa),h)):∃ b,r=(.bool b,h)∧(b=true→l=[]):=by
 obtain ⟨b,hb,rfl⟩:=List.mem_map.1 hr
 refine ⟨b,rfl,?_⟩
 rintro rfl
 cases l with
 | nil=>rfl
 | cons x l=>simp at hb
theorem w0 {P:Program} {ev:Operand→aa} {op:Op} {h h0:ac} {l:List aa} {t e a b a' b':Nat} {z z':aa} {ek:TyK} (hv:se ev op=some (.append,[t,t],[.full [],.imm l])) (hh:h=h0)
 (ht:aX P t=some ⟨.slice e,a,b,z⟩) (he:aX P e=some ⟨ek,a',b',z'⟩) (hc:0<a'∧z'.cells.length=a'∧gn a' l=true) (hf:jt l.length b'=true) :
 aop P h ev op=some (.own h0.length 0 l.length,h0++[.arr a' l 0]):=by
 subst hh
 rw [ga hv]
 simp only [cK,kJ,ht,he,il]
 rw [if_pos hc,if_pos ⟨rfl,rfl,by simpa using hf⟩]
 simp
theorem pq {cx:Cx} {m:Nat} {l:List aa} {h:ac} {sz r:Nat} {T:Tm} {e:Exit} (hm:m=h.length) (he:e=.normal∨e=.ret) (hT:Tm.get T r=.own h.length 0 l.length) (hb:h.all (af.belO (h.length+1))=true) (hbl:bN (h.length+1) l=true) :
 yp cx [.tmp r] m (fun v h'=>v=.own h.length 0 l.length∧h'=h++[.arr sz l 0]) e T (h++[.arr sz l 0]):=by
 have ht:(h++[af.arr sz l 0]).take (h.length+1)=h++[.arr sz l 0]:=List.take_of_length_le zq
 refine ⟨he,[.own h.length 0 l.length],by simp [eN,hT],h.length+1,by omega,by simp [aK,aa.bel],?_,rfl,ht⟩
 rw [ht,List.all_append,hb]
 simp [af.belO,hbl]
noncomputable def JJ:Code:=aB Tryz.f84
theorem Ah (l:List aa) (h:ac) (hok:gn 1 l=true) (hf:jt l.length 16=true) (hb:h.all (af.belO (h.length+1))=true) (hbl:bN (h.length+1) l=true) :
 ar cx 84 [.imm l] h (fun v h'=>v=.own h.length 0 l.length∧h'=h++[.arr 1 l 0]):=by
 refine dN (cx:=cx) 8 h.length [.tmp 2] Tryz.func84 rfl rfl rfl rfl rfl zq ?_
 show wpA cx 8 h.length (at_ JJ []) _ _ _
 refine wSt [0] [(0,.imm l)] h kq rfl ?_
 refine qW 1 [(0,.imm l),(2,.full [])] h ?_ ?_
 refine ao ?_ ?_
 refine qV 1 ?_ ?_
 refine pF (L:=(bif l.isEmpty then [true,false] else [false]).map fun b=>(.bool b,h)) kq kq kq kq kq ?_
 intro r hr
 obtain ⟨b,rfl,hb0⟩:=A3 hr
 refine qN [(0,.imm l),(2,.full []),(4,.bool b)] h ?_ ?_
 refine wIf kq b kq (fun e=>?_) (fun _=>?_)
 have hl:=hb0 e
 subst hl
 refine qU 1 [(2,.full [])] ?_ ?_
 refine rK 2 1 dq rfl ?_
 exact a8 kq (pq rfl (.inr rfl) rfl hb hbl)
 kernel_rfl
 refine qK ?_ ?_
 refine qz [(0,.imm l),(2,.full [])] ?_ ?_
 refine qV 2 ?_ ?_
 refine Au (v:=.own h.length 0 l.length) (h':=h++[.arr 1 l 0]) kq kq (w0 (P:=cx.P) (t:=22) (l:=l) (h0:=h) kq kq bi ty9 ⟨by decide,by decide,hok⟩ hf) ?_
 refine qr 1 ?_ ?_
 refine qe ?_ ?_
 refine ab ?_
 exact a8 kq (pq rfl (.inr rfl) rfl hb hbl)
 iterate 9 kernel_rfl
noncomputable def Jk:Code:=aB Tryz.f109
theorem wm (l:List aa) (h:ac) (hok:gn 5 l=true) (hf:jt l.length 80=true) (hb:h.all (af.belO (h.length+1))=true) (hbl:bN (h.length+1) l=true) :
 ar cx 109 [.imm l] h (fun v h'=>v=.own h.length 0 l.length∧h'=h++[.arr 5 l 0]):=by
 refine dN (cx:=cx) 8 h.length [.tmp 2] Tryz.func109 rfl rfl rfl rfl rfl zq ?_
 show wpA cx 8 h.length (at_ Jk []) _ _ _
 refine wSt [0] [(0,.imm l)] h kq rfl ?_
 refine qW 1 [(0,.imm l),(2,.full [])] h ?_ ?_
 refine ao ?_ ?_
 refine qV 1 ?_ ?_
 refine pF (L:=(bif l.isEmpty then [true,false] else [false]).map fun b=>(.bool b,h)) kq kq kq kq kq ?_
 intro r hr
 obtain ⟨b,rfl,hb0⟩:=A3 hr
 refine qN [(0,.imm l),(2,.full []),(4,.bool b)] h ?_ ?_
 refine wIf kq b kq (fun e=>?_) (fun _=>?_)
 have hl:=hb0 e
 subst hl
 refine qU 1 [(2,.full [])] ?_ ?_
 refine rK 2 5 dq rfl ?_
 exact a8 kq (pq rfl (.inr rfl) rfl hb hbl)
 kernel_rfl
 refine qK ?_ ?_
 refine qz [(0,.imm l),(2,.full [])] ?_ ?_
 refine qV 2 ?_ ?_
 refine Au (v:=.own h.length 0 l.length) (h':=h++[.arr 5 l 0]) kq kq (w0 (P:=cx.P) (t:=23) (l:=l) (h0:=h) kq kq ba bV ⟨by decide,by decide,hok⟩ hf) ?_
 refine qr 1 ?_ ?_
 refine qe ?_ ?_
 refine ab ?_
 exact a8 kq (pq rfl (.inr rfl) rfl hb hbl)
 iterate 9 kernel_rfl
end Go.Proofs.YtdikgijfekfaoaaGreatDoor
namespace Go.Proofs.YtdikgijfekfaoaaGreatDoor
open Go.Proofs.YtdikgijfekfaoaaGreatDoor.Abs Go.RowKit Go.Maps Go.Sort
def yT (x:List UInt8):List (List UInt8)→List (List UInt8)
 | []=>[x]
 | y::l=>bif aY y x then y::yT x l else x::y::l
def aD:List (List UInt8)→List (List UInt8)
 | []=>[]
 | x::l=>yT x (aD l)
theorem nr (x:List UInt8):∀ l,(yT x l).Perm (x::l)
 | []=>.refl _
 | y::l=>by
  simp only [yT]
  cases aY y x with
  | true=>exact ((nr x l).cons y).trans (.swap x y l)
  | false=>exact .refl _
theorem bU:∀ l,(aD l).Perm l
 | []=>.refl _
 | x::l=>(nr x _).trans ((bU l).cons x)
theorem qh (x y:List UInt8):aY x y=decide (x<y):=bytesLess_eq x y
theorem oe (x:List UInt8):∀ l:List (List UInt8),l.Pairwise (fun a b=>leB a b=true)→(yT x l).Pairwise (fun a b=>leB a b=true)
 | [],_=>by simp [yT]
 | y::l,h=>by
  simp only [yT,qh]
  have h':=List.pairwise_cons.1 h
  by_cases hlt:y<x
  · rw [decide_eq_true hlt]
    refine List.pairwise_cons.2 ⟨fun z hz=>?_,oe x l h'.2⟩
    have:=(nr x l).mem_iff.1 hz
    simp only [List.mem_cons] at this
    rcases this with rfl|hz
    · simp only [leB,decide_eq_true_eq];exact List.le_of_lt hlt
    · exact h'.1 z hz
  · rw [decide_eq_false hlt]
    have hxy:x≤y:=List.not_lt.1 hlt
    refine List.pairwise_cons.2 ⟨fun z hz=>?_,h⟩
    simp only [List.mem_cons] at hz
    simp only [leB,decide_eq_true_eq]
    rcases hz with rfl|hz
    · exact hxy
    · have:=h'.1 z hz
      simp only [leB,decide_eq_true_eq] at this
      exact List.le_trans hxy this
theorem jg:∀ l,(aD l).Pairwise (fun a b=>leB a b=true)
 | []=>.nil
 | x::l=>oe x _ (jg l)
theorem v8 {l l':List (List UInt8)} (h:l.Perm l'):l.mergeSort (fun x y=>decide (x≤y))=aD l':=by
 have tr:∀ a b c:List UInt8,leB a b=true→leB b c=true→leB a c=true:=fun a b c h1 h2=>by simp only [leB,decide_eq_true_eq] at *;exact List.le_trans h1 h2
 have to:∀ a b:List UInt8,(leB a b || leB b a)=true:=fun a b=>by simp only [leB,Bool.or_eq_true,decide_eq_true_eq];exact List.le_total a b
 refine List.Perm.eq_of_pairwise (le:=fun a b=>leB a b=true) (fun a b _ _ h1 h2=>?_) (List.pairwise_mergeSort tr to l) (jg l') (((List.mergeSort_perm l leB).trans h).trans (bU l').symm)
 simp only [leB,decide_eq_true_eq] at h1 h2
 exact List.le_antisymm h1 h2
def mN (kv:List (List UInt8×aa)):List (aa×aa):=kv.map fun p=>(.str p.1,p.2)
theorem ye {ρ:Go.Proofs.YtdikgijfekfaoaaGreatDoor.Abs.Ren} {h:ac} {w:World} (wf:WF ρ h w) {m:Nat} {kv:List (List UInt8×aa)} (hm:h[m]?=some (.map (mN kv))) (hnd:(kv.map (·.1)).Nodup)
 (hlen:∀ p∈kv,p.1.length≤maxLen) (hsz:kv.length≤maxLen) :
 ∃ D:DataW Unit,w.ownsMap Tryz.prog 9 (fun _=>some (.nil,[])) (ρ.loc m).blk kv.length D∧(strKeys D).Perm (kv.map (·.1))∧Maps.size D=kv.length:=by
 obtain ⟨ms,clock,h1,h2,h3,h4⟩:=wf.obj m _ hm
 have hl:ms.size=kv.length:=by rw [h2];simp [mN]
 have key:∀ (i:Nat) e,ms[i]?=some e→∃ p,kv[i]?=some p∧e.key=.string ⟨p.1.toArray⟩∧e.born<clock:=by
  intro i e he
  have hi:i<kv.length:=by rw [← hl];exact (Array.getElem?_eq_some_iff.1 he).1
  have hk:(mN kv)[i]?=some (.str kv[i].1,kv[i].2):=by simp [mN,hi]
  obtain ⟨q1,_,q3⟩:=h3 i _ e hk he
  refine ⟨kv[i],List.getElem?_eq_getElem hi,?_,q3⟩
  generalize e.key=v at q1
  cases q1
  rfl
 have keys:ms.toList.map (·.key)=kv.map fun p=>Value.string ⟨p.1.toArray⟩:=by
  apply List.ext_getElem?
  intro i
  simp only [List.getElem?_map,Array.getElem?_toList]
  cases he:ms[i]? with
  | none =>
   have:kv[i]?=none:=by
    rw [List.getElem?_eq_none_iff,← hl]
    simpa using he
   simp [this]
  | some e =>
   obtain ⟨p,hp,hk,_⟩:=key i e he
   simp [hp,hk]
 have kof:∀ s:List UInt8,s.length≤maxLen→keyOf Tryz.prog 9 (.string ⟨s.toArray⟩)=some (.string s):=by
  intro s hs
  have:(⟨s.toArray⟩:ByteArray).size≤maxLen:=by simpa [ByteArray.size] using hs
  simp [keyOf,Tryz.underlying9,mapKey,this]
 have rd1:∀ x∈ms.toList,∃ p∈kv,x.key=.string ⟨p.1.toArray⟩∧WideElems.rd (H:=Unit) Tryz.prog 9 (fun _=>some (.nil,[])) x=some (.string p.1,.nil):=by
  intro x hx
  obtain ⟨i,hi⟩:=List.getElem?_of_mem hx
  rw [Array.getElem?_toList] at hi
  obtain ⟨p,hp,hk,_⟩:=key i x hi
  have hpm:p∈kv:=List.mem_of_getElem? hp
  refine ⟨p,hpm,hk,?_⟩
  simp [WideElems.rd,hk,kof p.1 (hlen p hpm)]
 have ins:∀ (x:Lit×DataW Unit) l,(DataW.insert x l).Perm (x::l):=by
  intro x l
  induction l with
  | nil=>exact .refl _
  | cons y l ih =>
   simp only [DataW.insert]
   split
   · exact .refl _
   · exact (ih.cons y).trans (.swap x y l)
 have srt:∀ l:List (Lit×DataW Unit),(l.foldr DataW.insert []).Perm l:=by
  intro l
  induction l with
  | nil=>exact .refl _
  | cons x l ih=>exact (ins x _).trans (ih.cons x)
 refine ⟨_,⟨ms,clock,h1,⟨by rw [hl];exact hsz,⟨?_,?_,?_⟩,fun x hx=>?_⟩,by omega,rfl⟩,?_,?_⟩
 · intro x hx
   obtain ⟨i,hi⟩:=List.getElem?_of_mem hx
   rw [Array.getElem?_toList] at hi
   obtain ⟨_,_,_,hb⟩:=key i x hi
   exact hb
 · rw [List.nodup_iff_pairwise_ne,List.pairwise_iff_getElem]
   intro i j hi hj hij
   simp only [List.length_map,Array.length_toList] at hi hj
   simp only [List.getElem_map,Array.getElem_toList,ne_eq]
   intro e
   have:=h4 i j _ _ (Array.getElem?_eq_getElem oq) (Array.getElem?_eq_getElem hj) e
   omega
 · rw [keys,show (kv.map fun p=>Value.string ⟨p.1.toArray⟩)=(kv.map (·.1)).map (fun s=>Value.string ⟨s.toArray⟩) by simp]
   refine List.pairwise_map.2 (hnd.imp fun hne e=>hne ?_)
   simpa using e
 · obtain ⟨p,_,_,q⟩:=rd1 x hx
   exact ⟨_,q⟩
 · refine ((srt _).map _).trans ?_
   have:(ms.toList.map (WideElems.rg (H:=Unit) Tryz.prog 9 (fun _=>some (.nil,[])))).map (fun p=>strOf p.1)=kv.map (·.1):=by
    apply List.ext_getElem?
    intro i
    simp only [List.getElem?_map,Array.getElem?_toList]
    cases he:ms[i]? with
    | none =>
     have:kv[i]?=none:=by
      rw [List.getElem?_eq_none_iff,← hl]
      simpa using he
     simp [this]
    | some e =>
     obtain ⟨p,hp,hk,_⟩:=key i e he
     simp [hp,WideElems.rg,WideElems.rd,hk,kof p.1 (hlen p (List.mem_of_getElem? hp)),strOf]
   rw [← this]
 · show (List.foldr DataW.insert [] _).length=_
   rw [(srt _).length_eq]
   simp [hl]
theorem Dz (m:Nat):AnyZ.SortsIn Tryz.prog Tryz.sorted113_ren Fence.wide m :=
 ⟨fun blk off cap ss W hH hblk hsz=>callsIn_wide.2 (AnyM.slices_Sort_string Tryz.sort126 blk off cap ss W hH hblk hsz),
  fun p cap W=>callsIn_wide.2 (AnyM.slices_Sort_string_none Tryz.sort126 p cap W)⟩
def pW (g:FuncId):Prop:=(∀ args w,(callFunc g args).run Tryz.prog w=.ok (.enter g args) w) ∧
 ∀ (w:World) (Bm b nn:Nat) (D0:DataW Unit),Bm<w.heap.size→w.cell? ⟨Bm,0,none⟩=some (.map (some b))→w.ownsMap Tryz.prog 9 (fun _=>some (.nil,[])) b nn D0 →
  SeqGives Fence.wide 2 Tryz.prog g #[.pointer (some ⟨Bm,0,none⟩)] encStr (fun ss=>ss.Perm (strKeys D0)) (Maps.size D0) w
theorem t7:pW 127:=⟨enters_of Tryz.func127 kq rfl,fun w Bm b nn D0 h1 h2 h3=>AnyZ.keys_gives (ρ:=Tryz.keys114_ren) { Tryz.keys114 with } Fence.wide _ trivial rfl oq Bm b nn D0 _ h1 h2 h3⟩
theorem zW:pW 138:=⟨enters_of Tryz.func138 kq rfl,fun w Bm b nn D0 h1 h2 h3=>AnyZ.keys_gives (ρ:=Tryz.keys123_ren) { Tryz.keys123 with } Fence.wide _ trivial rfl oq Bm b nn D0 _ h1 h2 h3⟩
theorem gR {g:FuncId} (hg:pW g) {h:ac} {m o:Nat} {kv:List (List UInt8×aa)} (ho:h[o]?=some (.box [.map m])) (hm:h[m]?=some (.map (mN kv))) (hnd:(kv.map (·.1)).Nodup)
 (hlen:∀ p∈kv,p.1.length≤1000000000) (hsz:kv.length≤1000000000) :
 ar cx 113 [.fn (.func g) [] [.ptr o 0]] h (fun v h'=>v=.imm ((aD (kv.map (·.1))).map .str)∧h'=h):=by
 refine js (v:=.imm ((aD (kv.map (·.1))).map .str)) ⟨_,Tryz.func113,rfl,rfl⟩ ⟨rfl,rfl⟩ ?_
 intro ρ w cargs wf _ hv
 have hmax:∀ n:Nat,n≤1000000000→n≤maxLen:=fun n hn=>Nat.le_trans hn dq
 obtain ⟨D,hown,hperm,hD⟩:=ye wf hm hnd (fun p hp=>hmax _ (hlen p hp)) (hmax _ hsz)
 obtain ⟨u,rfl,hu⟩:=hv.one
 have hcv:∃ p,u=.func (.func g) #[] #[p]∧VR ρ h w (.ptr o 0) p:=by
  cases hu with
  | fn _ _ _ us vs hl hl' hu1 hv1 =>
   obtain ⟨us⟩:=us
   obtain ⟨vs⟩:=vs
   match us,vs,hl,hl',hv1 with
   | [],[p],_,_,hv2=>exact ⟨p,rfl,hv2 0 _ _ rfl rfl⟩
 obtain ⟨p,rfl,hp⟩:=hcv
 obtain ⟨c,t,q1,q2,q3⟩:=wf.obj o _ ho
 have hpe:p=.pointer (some ⟨(ρ.loc o).blk,0,none⟩):=by cases hp;rfl
 subst hpe
 have hlt:(ρ.loc o).blk<w.heap.size:=(Array.getElem?_eq_some_iff.1 q1).1
 have hcell:w.cell? ⟨(ρ.loc o).blk,0,none⟩=some (.map (some (ρ.loc m).blk)):=by
  simp only [List.length_cons,List.length_nil] at q2
  have hc0:c[0]?=some c[0]:=Array.getElem?_eq_getElem oq
  have:=q3 0 (.map m) c[0] rfl hc0
  have e:c[0]=.map (some (ρ.loc m).blk):=by
   generalize c[0]=v at this
   cases this
   rfl
  simp [World.cell?,q1,hc0,e]
 have hseq:=hg.2 w (ρ.loc o).blk (ρ.loc m).blk kv.length D hlt hcell hown
 refine (callsIn_wide.1 (AnyZ.sorted_in Tryz.sorted113 Fence.wide 5 trivial trivial trivial trivial rfl oq (Dz _) (enters_of Tryz.func126 kq rfl) g _ trivial hg.1 _ _ (by rw [hD];exact hmax _ hsz) (by rw [hD];omega) w hseq)).mono ?_
 rintro e w' ⟨v,ss,rfl,hS,hrow,_,hb⟩
 rw [v8 (hS.trans hperm)] at hrow
 have hl:ss.length=(aD (kv.map (·.1))).length:=((hS.trans hperm).trans (bU _).symm).length_eq
 obtain ⟨hx,⟨rfl,hn⟩|⟨gb,cap,cur,rfl,hbase,hgb,hcap,hcm,hcs,hcur⟩⟩:=hrow
 · have hz:aD (kv.map (·.1))=[]:=List.eq_nil_of_length_eq_zero oq
   refine ⟨_,ρ.I,rfl,hb,fun _ _ h=>h,fun _ _ h=>.inl h,fun _=>?_⟩
   rw [hz]
   exact .imm [] none 0 0 0 0 (fun _ _=>undef) (Nat.le_refl _) zq zq zq zq
 · refine ⟨_,fun b j=>ρ.I b j∨b=gb,rfl,hb,fun _ _ h=>.inl h,fun b j hI=>?_,fun _=>?_⟩
   · rcases hI with h|rfl
     · exact .inl h
     · exact .inr ⟨hbase,(Array.getElem?_eq_some_iff.1 hgb).1⟩
   · rw [show (Value.slice (some ⟨gb,0,none⟩) ss.length cap)=Value.slice (some ⟨gb,0,none⟩) ((aD (kv.map (·.1))).map aa.str).length cap by rw [List.length_map,← hl]]
     refine .imm _ _ cap 1 gb 0 (fun i _=>encStr ((aD (kv.map (·.1))).getD i [])) (by rw [List.length_map,← hl];exact hcap) (fun _=>rfl) ?_ ?_ ?_
     · intro i x hx
       simp only [List.getElem?_map,Option.map_eq_some_iff] at hx
       obtain ⟨s,_,rfl⟩:=hx
       rfl
     · intro i x j y hx hy
       simp only [List.getElem?_map,Option.map_eq_some_iff] at hx
       obtain ⟨s,hs,rfl⟩:=hx
       have hj:j=0:=by
        have:=(List.getElem?_eq_some_iff.1 hy).1
        simp [aa.cells] at this
        exact this
       subst hj
       refine ⟨.inr rfl,?_⟩
       have hi:i<(aD (kv.map (·.1))).length:=(List.getElem?_eq_some_iff.1 hs).1
       have hc:cur[i]?=some (encStr s):=by
        have h1:(cur.toList.take (ss.length * 1))[i]?=some (encStr s):=by rw [hcur,List.getElem?_map,hs];rfl
        rw [List.getElem?_take] at h1
        split at h1
        · rwa [Array.getElem?_toList] at h1
        · simp at h1
       have hg':(aD (kv.map (·.1))).getD i []=s:=by rw [List.getD_eq_getElem?_getD,hs];rfl
       rw [hg']
       simp [World.cell?,hgb,hc]
     · intro i x j y hx hy
       simp only [List.getElem?_map,Option.map_eq_some_iff] at hx
       obtain ⟨s,hs,rfl⟩:=hx
       have hj:j=0:=by
        have:=(List.getElem?_eq_some_iff.1 hy).1
        simp [aa.cells] at this
        exact this
       subst hj
       simp [aa.cells] at hy
       subst hy
       have hg':(aD (kv.map (·.1))).getD i []=s:=by rw [List.getD_eq_getElem?_getD,hs];rfl
       show VR _ h w' (.str s) (encStr ((aD (kv.map (·.1))).getD i []))
       rw [hg']
       exact .str s
end Go.Proofs.YtdikgijfekfaoaaGreatDoor
namespace Go.Proofs.YtdikgijfekfaoaaGreatDoor
open Go.Proofs.YtdikgijfekfaoaaGreatDoor.Abs Go.RowKit Go.Maps
theorem mclone65 {h:ac} {o:Nat} {es:List (aa×aa)} (ho:h[o]?=some (.map es)):ar cx 65 [.map o] h (fun v h'=>v=.map h.length∧h'=h++[.map es]):=by
 refine ⟨⟨_,Tryz.func65,rfl,rfl⟩,fun ρ w cargs wf _ hv=>?_⟩
 obtain ⟨u,rfl,hu⟩:=hv.one
 obtain ⟨ms,clock,q1,q2,q3,q4⟩:=wf.obj o _ ho
 have hu':u=.map (some (ρ.loc o).blk):=by cases hu;rfl
 subst hu'
 refine (AnyW.maps_Clone Tryz.mclone65 _ ms clock w q1).mono ?_
 rintro e w' ⟨rfl,rfl⟩
 have hst:=bX (h':=h++[.map es]) (w':=w.alloc (.map ms clock)) wf (Fr.refl ρ h w) h.length (.map es) ⟨w.heap.size,0,0⟩ ρ.I (getElem?_append_one _ _) (fun o' ho=>bH _ _ _ ho)
  rfl rfl rfl zq (fun b hb _=>Below.heap_alloc w _ b hb) zq
  (fun b j hI=>⟨hI,bE (Below.heap_alloc w _ b (wf.immlt b j hI)) j⟩) (fun b j hI=>.inl hI)
  (fun _=>.inl ⟨Nat.le_refl _,by simp⟩) (fun j _ hI=>absurd (wf.immlt _ j hI) zq)
  (ck wf)
  (fun le=>⟨ms,clock,Go.heap_alloc_new w _,q2,fun i kv e a b=>⟨(q3 i kv e a b).1.mono le,(q3 i kv e a b).2.1.mono le,(q3 i kv e a b).2.2⟩,q4⟩)
 refine ⟨_,_,_,_,rfl,⟨rfl,rfl⟩,?_,hst.1,hst.2.1,hst.2.2⟩
 have:=VR.map (ρ:=ρ.put h.length ⟨w.heap.size,0,0⟩ ρ.I) (h:=h++[.map es]) (w:=w.alloc (.map ms clock)) h.length es (getElem?_append_one _ _)
 rw [Ren.put_same] at this
 exact this
def mE (sz by':Nat):List aa→ac→Option (aa×ac)
 | [.imm l],h=>bif gn sz l && jt l.length by' && h.all (af.belO (h.length+1)) && bN (h.length+1) l then some (.own h.length 0 l.length,h++[.arr sz l 0]) else none
 | _,_=>none
def si:List aa→ac→Option (aa×ac)
 | [.map o],h=>match h[o]? with
  | some (.map es)=>some (.map h.length,h++[.map es])
  | _=>none
 | _,_=>none
def Bp:List (aa×aa)→Option (List (List UInt8×aa))
 | []=>some []
 | (.str s,v)::l=>match Bp l with
  | some r=>some ((s,v)::r)
  | none=>none
 | _=>none
theorem wS:∀ {es:List (aa×aa)} {kv:List (List UInt8×aa)},Bp es=some kv→es=mN kv
 | [],kv,h=>by simp [Bp] at h;subst h;rfl
 | (x,v)::l,kv,h=>by
  cases x with
  | str s =>
   simp only [Bp] at h
   split at h
   · rename_i r hr
     simp only [Option.some.injEq] at h
     subst h
     rw [wS hr];rfl
   · simp at h
  | _=>simp [Bp] at h
def ndS:List (List UInt8)→Bool
 | []=>true
 | x::l=>!(l.contains x) && ndS l
theorem sT:∀ {l:List (List UInt8)},ndS l=true→l.Nodup
 | [],_=>.nil
 | x::l,h=>by
  simp only [ndS,Bool.and_eq_true,Bool.not_eq_true',List.contains_eq_mem,decide_eq_false_iff_not] at h
  exact List.nodup_cons.2 ⟨h.1,sT h.2⟩
def yt (kv:List (List UInt8×aa)):Bool:=ndS (kv.map (·.1)) && kv.all (fun p=>Nat.ble p.1.length 1000000000) && Nat.ble kv.length 1000000000
def nf:List aa→ac→Option (aa×ac)
 | [.fn (.func g) [] [.ptr o 0]],h=>bif Nat.beq g 127 || Nat.beq g 138 then match h[o]? with
  | some (.box [.map m])=>match h[m]? with
   | some (.map es)=>match Bp es with
    | some kv=>bif yt kv then some (.imm ((aD (kv.map (·.1))).map .str),h) else none
    | none=>none
   | _=>none
  | _=>none
  else none
 | _,_=>none
def tT:yG:=fun f args h =>
 bif Nat.beq f 84 then mE 1 16 args h
 else bif Nat.beq f 109 then mE 5 80 args h
 else bif Nat.beq f 65 then si args h
 else bif Nat.beq f 113 then nf args h
 else none
def lm:mI:=fun f args h=>bif Nat.beq f 84 || Nat.beq f 109 || Nat.beq f 65 || Nat.beq f 113 then zN (fun _ _ _=>none) tT (fun _=>false) f args h else none
theorem lp {sz by':Nat} {args:List aa} {h:ac} {r:aa×ac} (hr:mE sz by' args h=some r) :
 ∃ l,args=[.imm l]∧gn sz l=true∧jt l.length by'=true∧h.all (af.belO (h.length+1))=true∧bN (h.length+1) l=true∧r=(.own h.length 0 l.length,h++[.arr sz l 0]):=by
 unfold mE at hr
 split at hr
 · rename_i h' l
   cases hc:gn sz l && jt l.length by' && h.all (af.belO (h.length+1)) && bN (h.length+1) l with
   | false=>rw [hc] at hr;simp at hr
   | true =>
    rw [hc] at hr
    simp only [cond_true,Option.some.injEq] at hr
    simp only [Bool.and_eq_true] at hc
    exact ⟨l,rfl,hc.1.1.1,hc.1.1.2,hc.1.2,hc.2,hr.symm⟩
 · simp at hr
theorem ut {args:List aa} {h:ac} {r:aa×ac} (hr:nf args h=some r):ar cx 113 args h fun v h'=>v=r.1∧h'=r.2:=by
 unfold nf at hr
 split at hr <;> try (simp at hr;done)
 rename_i _ g o
 cases hg:Nat.beq g 127 || Nat.beq g 138 with
 | false=>rw [hg] at hr;simp at hr
 | true =>
  rw [hg] at hr
  simp only [cond_true] at hr
  split at hr <;> try (simp at hr;done)
  rename_i m ho
  split at hr <;> try (simp at hr;done)
  rename_i es hm
  split at hr <;> try (simp at hr;done)
  rename_i kv hk
  cases hc:yt kv with
  | false=>rw [hc] at hr;simp at hr
  | true =>
   rw [hc] at hr
   simp only [cond_true,Option.some.injEq] at hr
   subst hr
   have:=wS hk
   subst this
   simp only [yt,Bool.and_eq_true,List.all_eq_true,Nat.ble_eq] at hc
   refine gR ?_ ho hm (sT hc.1.1) hc.1.2 hc.2
   simp only [Bool.or_eq_true] at hg
   rcases hg with hg|hg
   · rw [Nat.eq_of_beq_eq_true hg];exact t7
   · rw [Nat.eq_of_beq_eq_true hg];exact zW
theorem yN:AA cx tT:=by
 intro f args h r hr
 unfold tT at hr
 cases h1:Nat.beq f 84 with
 | true =>
  rw [h1] at hr
  obtain ⟨l,rfl,q1,q2,q3,q4,rfl⟩:=lp hr
  rw [Nat.eq_of_beq_eq_true h1]
  exact Ah l h q1 q2 q3 q4
 | false =>
  rw [h1] at hr
  simp only [cond_false] at hr
  cases h2:Nat.beq f 109 with
  | true =>
   rw [h2] at hr
   obtain ⟨l,rfl,q1,q2,q3,q4,rfl⟩:=lp hr
   rw [Nat.eq_of_beq_eq_true h2]
   exact wm l h q1 q2 q3 q4
  | false =>
   rw [h2] at hr
   simp only [cond_false] at hr
   cases h3:Nat.beq f 65 with
   | true =>
    rw [h3] at hr
    simp only [cond_true] at hr
    rw [Nat.eq_of_beq_eq_true h3]
    unfold si at hr
    split at hr <;> try (simp at hr;done)
    split at hr <;> try (simp at hr;done)
    rename_i es ho
    simp only [Option.some.injEq] at hr
    subst hr
    exact mclone65 ho
   | false =>
    rw [h3] at hr
    simp only [cond_false] at hr
    cases h4:Nat.beq f 113 with
    | true =>
     rw [h4] at hr
     rw [Nat.eq_of_beq_eq_true h4]
     exact ut hr
    | false=>rw [h4] at hr;simp at hr
theorem FW:∀ f args h r,lm f args h=some r→jp cx f args h r.1 r.2.1 r.2.2:=by
 intro f args h r hr
 unfold lm at hr
 cases hc:Nat.beq f 84 || Nat.beq f 109 || Nat.beq f 65 || Nat.beq f 113 with
 | false=>rw [hc] at hr;simp at hr
 | true =>
  rw [hc] at hr
  simp only [cond_true] at hr
  exact oI (raw:=fun _=>false) (lm:=fun _ _ _=>none) zq yN f args h r hr
end Go.Proofs.YtdikgijfekfaoaaGreatDoor
namespace Go.Proofs.YtdikgijfekfaoaaGreatDoor
open Go.Proofs.YtdikgijfekfaoaaGreatDoor.Abs
set_option maxRecDepth 100000
theorem r8 : Tryz.prog.funcs.toList.all (fun fn => !(fn.name == "runtime.NumGoroutine")) = true := by kernel_rfl
theorem zu : ∀ (f : FuncId) (fn : Func), cx.P.funcs[f]? = some fn → (fn.name == "runtime.NumGoroutine") = false := by
 intro f fn hf
 have hm:fn∈Tryz.prog.funcs.toList:=Array.mem_toList_iff.2 (Array.mem_of_getElem? hf)
 have:=List.all_eq_true.1 r8 fn hm
 simpa using this
theorem Iu:cx.P.follows .mixedOrders=true:=by kernel_rfl
def xp:XP:=⟨1000,fun _=>false,fun f g=>(Nat.beq f 68 || Nat.beq f 77) && Nat.beq g 67⟩
theorem Cm:B8 cx.P cx.G lm xp 60 false 18 [] []=some (.bool true,[]):=by kernel_rfl
theorem yV:aC cx 18 [] (.bool true):=rP Iu zu FW 60 false 18 [] [] _ Cm
end Go.Proofs.YtdikgijfekfaoaaGreatDoor
namespace Go.Proofs.YtdikgijfekfaoaaGreatDoor
open Go.Proofs.YtdikgijfekfaoaaGreatDoor.Abs
set_option maxRecDepth 20000
set_option maxHeartbeats 4000000
noncomputable def c3:Code:=aB Tryz.f3
theorem I8:ownKnob Tryz.prog.godebug=none:=by kernel_rfl
theorem FQ:laidOutB Tryz.prog=true:=by kernel_rfl
def Fg:List TypeId:=[3,4,9,22,23,25,26,206,207]
theorem l7:tM Tryz.prog Fg=true:=by kernel_rfl
def lX:List (String×DataW Unit):=Rows.typesFormsRow.laid
def kwD : String × DataW Unit := lX.getD 6 ("", .nil)
def syD : String × DataW Unit := lX.getD 7 ("", .nil)
theorem tB:lX.filter (fun x=>x.2.handleName?.isSome)=[]:=by kernel_rfl
theorem IG:(kwD.1,kwD.2)∈lX:=List.mem_of_getElem? (i:=6) rfl
theorem H4:(syD.1,syD.2)∈lX:=List.mem_of_getElem? (i:=7) rfl
theorem EI:Tryz.prog.globalNamed kwD.1=some 4:=by kernel_rfl
theorem FP:Tryz.prog.globalNamed syD.1=some 5:=by kernel_rfl
theorem FM:(Tryz.prog.globals[4]?).map (·.type)=some 206:=by kernel_rfl
theorem Gw:(Tryz.prog.globals[5]?).map (·.type)=some 207:=by kernel_rfl
theorem El:(dOf kwD.2).cells=pg:=by kernel_rfl
theorem CN:(dOf syD.2).cells=ak:=by kernel_rfl
theorem DL {W:World} (hL:laidMetH Tryz.prog lX W):vG cx (m9 W) W:=by
 intro g cs hg
 have hg':(bif Nat.beq g 4 then some pg else bif Nat.beq g 5 then some ak else none)=some cs:=hg
 cases h4:Nat.beq g 4 with
 | true =>
  rw [h4] at hg'
  simp only [cond_true,Option.some.injEq] at hg'
  subst hg'
  rw [Nat.eq_of_beq_eq_true h4,← El]
  exact tD tB hL IG EI FM l7 rfl
 | false =>
  rw [h4] at hg'
  simp only [cond_false] at hg'
  cases h5:Nat.beq g 5 with
  | true =>
   rw [h5] at hg'
   simp only [cond_true,Option.some.injEq] at hg'
   subst hg'
   rw [Nat.eq_of_beq_eq_true h5,← CN]
   exact tD tB hL H4 FP Gw l7 rfl
  | false=>rw [h5] at hg';simp at hg'
theorem sC {H:Type}:∀ {elems:List (DataW H)},(∀ (i:Nat) x,elems[i]?=some x→∃ n,x=.lit (.int .i64 n)∧-9223372036854775808≤n∧n≤9223372036854775807)→∃ l:List Int,rU elems=l.map (.int .i64)∧sg l∧l.length≤Rows.uptoBulkAll elems
 | [],_=>⟨[],rfl,by simp [sg],Nat.le_refl _⟩
 | x::r,key=>by
  obtain ⟨n,rfl,hn⟩:=key 0 x rfl
  obtain ⟨l,h1,h2,h3⟩:=sC (elems:=r) (fun i y hy=>key (i+1) y (by simpa using hy))
  refine ⟨n::l,by simp [rU,dOf,h1],?_,by simp [Rows.uptoBulkAll,Rows.uptoBulk];omega⟩
  intro y hy
  simp only [List.mem_cons] at hy
  rcases hy with rfl|hy
  · exact hn
  · exact h2 y hy
section
variable {H:Type} {enc:TypeId×Value→H} {w:World} {sp:Nat→Bool} {held:Bool}
theorem Ax {fuel:Nat} {cs:List Value} {d:DataW H} {ps:List MemPlace} (h:DataW.trod enc Tryz.prog w 0 sp held fuel 26 cs=some (d,ps)):∃ l:List Int,dOf d=.imm (l.map (.int .i64))∧sg l∧l.length+1≤Rows.uptoBulk d:=by
 cases fuel with
 | zero=>simp [DataW.trod] at h
 | succ fuel =>
  rcases lF Tryz.underlying26 h with ⟨_,rfl⟩|⟨a,len,cap,elems,spare,_,rfl,_,_,hel⟩
  · exact ⟨[],rfl,by simp [sg],by simp [Rows.uptoBulk]⟩
  · have key:∀ (i:Nat) x,elems[i]?=some x→∃ n,x=.lit (.int .i64 n)∧-9223372036854775808≤n∧n≤9223372036854775807:=fun i x hx=>by
     obtain ⟨cs',ps',_,q⟩:=hel i x hx
     cases fuel with
     | zero=>simp [DataW.trod] at q
     | succ fuel =>
      obtain ⟨n,_,rfl,hw⟩:=pG Tryz.underlying3 q
      refine ⟨n,rfl,?_⟩
      simpa [Lit.wf,IntKind.min,IntKind.max,IntKind.signed,IntKind.bits] using hw
    obtain ⟨l,h1,h2,h3⟩:=sC key
    exact ⟨l,by simp [dOf,h1],h2,by simp only [Rows.uptoBulk];omega⟩
end
theorem C3 (t:TypeId) (h:([25,26,3]:List TypeId).contains t=true):Tryz.prog.readableRec t=true∧t<Tryz.prog.types.size:=by
 simp at h
 rcases h with rfl|rfl|rfl
 · exact ⟨by kernel_rfl,of_decide_eq_true kq⟩
 · exact ⟨by kernel_rfl,of_decide_eq_true kq⟩
 · exact ⟨by kernel_rfl,of_decide_eq_true kq⟩
noncomputable def C0 (os:Os):World:=World.laidAll Tryz.prog os lX
theorem Bq (os:Os) (args:Array Value):laidMet Tryz.prog lX ((C0 os).forCall (fun _ _=>0) ⟨#[],args,[]⟩).memory:=laidMet_laidAll _ kq kq
end Go.Proofs.YtdikgijfekfaoaaGreatDoor
namespace Go.Proofs.YtdikgijfekfaoaaGreatDoor.Abs
section
variable {cx:Cx} {n m:Nat} {Q:dp} {T:Tm} {h:ac} {l:List BOp} {KD:List (List Nat×List Nat)→Tm→ac→Prop} {s:DSt}
theorem cC {f:FuncId} {args:List aa} {hs hs' aO:ac} {v:aa} {L:List Nat} (hc:bF l=true) (hg:bJ s.2.1 (hdB l).g=some true) (hal:eV (hdB l).op=false) (ho:aop cx.P s.2.2.1 (aev cx.G s.2.1) (hdB l).op=none) (ha:aH (aev cx.G s.2.1) (hdB l).op=some (f,args))
 (hS:s.2.2.1=hs++aO) (hq:ar cx f args hs fun v' h'=>v'=v∧h'=hs') (hb:bN hs.length args=true) (hbo:hs.all (af.belO hs.length)=true) (hl:hs'.length=hs.length) (hv:v.bel hs.length=true) (hbo':hs'.all (af.belO hs.length)=true) (hn:gV aO=true)
 (hL:List.range hs.length=L) (hne:L.isEmpty=false) (hk:bdr cx l.tail (s.1,b5 s.2.1 (hdB l).dst v,hs'++aO,s.2.2.2++[(L,L)]) KD):bdr cx l s KD:=by
 subst hL
 refine DM (h':=hs'++aO) hc hg hal ho ha ⟨?_,?_,?_⟩ hk
 · intro o hn
   rw [hS]
   have:hs.length≤o:=by simpa using hn
   rw [List.getElem?_append_right oq,List.getElem?_append_right oq,hl]
 · rw [hS]
   exact rq hq hb hbo hl hv hbo' hn
 · intro e
   rw [e] at hne
   simp at hne
theorem wP (o:Nat) (h':ac) (hh:cd h [o]=h') {d:Code} (hw:wpA cx n m d Q T h'):wpA cx n m d Q T h:=by
 subst hh
 intro E B ρ a w hm hr
 obtain ⟨ρ',q1,q2,q3,_⟩:=ey [o] hr.wf hr.fr
 exact hw E B ρ' a w hm (hr.step q1 q2 q3)
end
section
variable {P:Program} {ev:Operand→aa} {op:Op} {h:ac}
theorem sx {α:Type} {enc:α→aa} {sz:Nat} (hok:∀ q,((enc q).cells.length==sz && (enc q).cells.all aa.cellOk)=true) (l:List α):gn sz (l.map enc)=true:=by
 unfold gn
 rw [List.all_eq_true]
 intro x hx
 obtain ⟨q,_,rfl⟩:=List.mem_map.1 hx
 exact hok q
end
end Go.Proofs.YtdikgijfekfaoaaGreatDoor.Abs
namespace Go.Proofs.YtdikgijfekfaoaaGreatDoor.Abs
section
variable {cx:Cx} {l:List BOp} {S:Tm×ac} {K:Tm→ac→Prop}
theorem dD {f:FuncId} {args:List aa} {v:aa} {h':ac} (H0:ac) (hc:bF l=true) (hg:bJ S.1 (hdB l).g=some true) (ho:aop cx.P S.2 (aev cx.G S.1) (hdB l).op=none) (ha:aH (aev cx.G S.1) (hdB l).op=some (f,args)) (hS:S.2=H0) (hq:ar cx f args H0 fun v' h''=>v'=v∧h''=h')
 (hk:bS cx l.tail (b5 S.1 (hdB l).dst v,h') K):bS cx l S K:=by
 subst hS
 exact xB hc hg ho ha hq (by rintro v' h'' ⟨rfl,rfl⟩;exact hk)
end
end Go.Proofs.YtdikgijfekfaoaaGreatDoor.Abs
namespace Go.Proofs.YtdikgijfekfaoaaGreatDoor.Abs
open Go
section
variable {cx:Cx} {h:ac}
theorem kC {f:FuncId} {args0 args:List aa} {v0 v:aa} {hs hs' h':ac} (L:List Nat) (hc:ar cx f args0 hs fun v' g=>v'=v0∧g=hs') (hl:hs.length=L.length) (hnd:L.Nodup) (hb:bN hs.length args0=true) (hbo:hs.all (af.belO hs.length)=true)
 (hobj:L.map (fun o=>h[o]?)=(dZ (bg L h.length) hs).map some) (hn:gV h=true) (ha:b4 (bg L h.length) args0=args) (hv:v0.ren (bg L h.length)=v) (hh:dX h L hs'=h') :
 ar cx f args h fun v' g=>v'=v∧g=h':=by
 subst ha hv hh
 have le:sd h L hs:=by
  refine ⟨hl,hnd,?_,hbo,fun o m left ho=>(jQ hn ho).elim⟩
  intro i o x hi hx
  have e:=congrArg (fun l=>l[i]?) hobj
  simp only [gx,List.getElem?_map,hi,hx,Option.map_some] at e
  exact Option.some.inj e
 exact fz le hc hb (by rintro v' g _ ⟨rfl,rfl⟩;exact ⟨rfl,rfl⟩)
end
end Go.Proofs.YtdikgijfekfaoaaGreatDoor.Abs
namespace Go.Proofs.YtdikgijfekfaoaaGreatDoor.Abs
open Go
section
variable {cx:Cx} {l:List BOp} {S:RSt} {K:Tm→ac→Prop}
theorem vZ {f:FuncId} {args args':List aa} {v:aa} {F:ac} (hc:bF l=true) (hg:bJ S.1 (hdB l).g=some true) (ho:aop cx.P S.2 (aev cx.G S.1) (hdB l).op=none) (ha:aH (aev cx.G S.1) (hdB l).op=some (f,args))
 (hq:aC cx f args' v) (H0:ac) (hH:S.2=H0) (hf:bf H0 args=args') (hb:bN 0 args'=true) (hF:cd H0 (aV args)=F)
 (hk:bS cx l.tail (b5 S.1 (hdB l).dst v,F) K):bS cx l S K:=by
 subst hH hF
 exact xB hc hg ho ha (q:=fun v' h'=>v'=v∧h'=cd S.2 (aV args)) (fA (by rw [hf];exact hq) (by rw [hf];exact hb) ⟨rfl,rfl⟩) (by rintro v' h' ⟨rfl,rfl⟩;exact hk)
variable {f:FuncId} {args args':List aa} {h:ac} {Q:aa→ac→Prop}
theorem ve (hc:ar cx f args' h Q) (hw:∀ ρ w vs,VRs ρ h w args vs→VRs ρ h w args' vs):ar cx f args h Q :=
 ⟨hc.1,fun ρ w cargs wf hg hv=>hc.2 ρ w cargs wf hg (hw ρ w cargs hv)⟩
theorem DO {x y:aa} (hw:∀ ρ w v,VR ρ h w x v→VR ρ h w y v):∀ ρ w vs,VRs ρ h w [x] vs→VRs ρ h w [y] vs:=by
 intro ρ w vs hv
 refine ⟨hv.1,fun i z v hz hv'=>?_⟩
 match i with
 | 0=>simp at hz;subst hz;exact hw ρ w v (hv.2 0 x v rfl hv')
 | i+1=>simp at hz
theorem HE {a b c d e:aa}:∀ ρ w v,VR ρ h w (.agg [a,b,c,d,e]) v→VR ρ h w (.agg [a,b,c,.any,.any]) v:=by
 intro ρ w v hv
 cases hv with
 | agg _ vs hl hx =>
  refine .agg _ vs hl fun i x y h1 h2=>?_
  match i with
  | 0=>simp at h1;subst h1;exact hx 0 _ y rfl h2
  | 1=>simp at h1;subst h1;exact hx 1 _ y rfl h2
  | 2=>simp at h1;subst h1;exact hx 2 _ y rfl h2
  | 3=>simp at h1;subst h1;exact .any _
  | 4=>simp at h1;subst h1;exact .any _
  | i+5=>simp at h1
theorem j7 {a b c d e v:aa} (hc:aC cx f [.agg [a,b,c,.any,.any]] v) (hb:bN 0 [a,b,c]=true) (ho:aV [a,b,c]=[]) (hf:bf h [a,b,c]=[a,b,c]):ar cx f [.agg [a,b,c,d,e]] h fun v' h'=>v'=v∧h'=h:=by
 simp only [bN,Bool.and_true,Bool.and_eq_true] at hb
 simp only [aV,List.append_nil,List.append_eq_nil_iff] at ho
 simp only [bf,List.cons.injEq,and_true] at hf
 refine ve (args':=[.agg [a,b,c,.any,.any]]) ?_ (DO HE)
 refine fA (v:=v) (by simp only [bf,aa.frz,hf.1,hf.2.1,hf.2.2];exact hc) (by simp only [bf,aa.frz,hf.1,hf.2.1,hf.2.2,bN,aa.bel,hb.1,hb.2.1,hb.2.2];rfl) ⟨rfl,?_⟩
 simp only [aV,aa.owns,ho.1,ho.2.1,ho.2.2,List.append_nil]
 rfl
end
end Go.Proofs.YtdikgijfekfaoaaGreatDoor.Abs
namespace Go.Proofs.YtdikgijfekfaoaaGreatDoor.Abs
open Go
theorem Cw (r:Nat→Nat) {l l':Loc} {x y:af} (h:x.grows l l' y):x.grows l l' (y.ren r):=by
 cases x <;> cases y <;> simp_all [af.grows,af.ren,ax]
section
variable {cx:Cx} {n m:Nat} {T:Tm} {h:ac} {Q:dp}
theorem H6 (ks:List Nat) (T':Tm) (h':ac) (hpre:∀ o,o<m→ks[o]?=some o) (hnd:ks.Nodup) (hT:∀ p∈T,∀ o∈p.2.refs,o∈ks) (hO:∀ o∈ks,oO ks h[o]?) (eT:renT (fun o=>ks.idxOf o) T=T') (eh:eY (fun o=>ks.idxOf o) h ks=h') {d:Code}
 (hk:wpA cx n m d Q T' h'):wpA cx n m d Q T h:=by
 intro E B ρ a w hm hr
 subst eT eh
 let r:Nat→Nat:=fun o=>ks.idxOf o
 let ρ':Ren:=⟨fun i=>ρ.loc (ks.getD i 0),ρ.I⟩
 have hin:∀ o∈ks,∀ y,h[o]?=some y→y.isIter=false∧(eY r h ks)[r o]?=some (y.ren r)∧ρ'.loc (r o)=ρ.loc o:=by
  intro o ho y hy
  have h1:=hO o ho
  rw [hy] at h1
  have hlt:ks.idxOf o<ks.length:=List.idxOf_lt_length_iff.2 ho
  have hge:ks[ks.idxOf o]=o:=List.getElem_idxOf hlt
  refine ⟨h1.1,?_,?_⟩
  · rw [fW,List.getElem?_map,List.getElem?_eq_getElem hlt,hge]
    simp [hy,m8]
  · show ρ.loc (ks.getD (ks.idxOf o) 0)=ρ.loc o
    rw [List.getD_eq_getElem?_getD,List.getElem?_eq_getElem hlt,hge];rfl
 have hout:∀ (i:Nat) x,(eY r h ks)[i]?=some x→∃ o y,o∈ks∧(∃ hi:i<ks.length,ks[i]=o)∧h[o]?=some y∧x=y.ren r∧ρ'.loc i=ρ.loc o:=by
  intro i x hx
  rw [fW,List.getElem?_map] at hx
  cases hq:ks[i]? with
  | none=>rw [hq] at hx;simp at hx
  | some o =>
   rw [hq] at hx
   obtain ⟨hi,he⟩:=List.getElem?_eq_some_iff.1 hq
   have hmem:o∈ks:=he▸List.getElem_mem hi
   have h1:=hO o hmem
   cases hy:h[o]? with
   | none=>rw [hy] at h1;exact h1.elim
   | some y =>
    simp [hy,m8] at hx
    refine ⟨o,y,hmem,⟨hi,he⟩,hy,hx.symm,?_⟩
    show ρ.loc (ks.getD i 0)=ρ.loc o
    rw [List.getD_eq_getElem?_getD,hq];rfl
 have hwf:WF ρ' (eY r h ks) w:=by
  refine ⟨?_,?_,?_,hr.wf.immlt,?_⟩
  · intro i x hx
    obtain ⟨o,y,h1,_,h3,rfl,h5⟩:=hout i x hx
    rw [h5]
    have h6:=hO o h1
    rw [h3] at h6
    exact (hr.wf.obj o y h3).ren2 h6.1 (fun _ _ h=>h) (fun o' ho' y' hy'=>hin o' (h6.2 o' ho') y' hy')
  · intro i x i' x' hx hx' hb hb' he
    obtain ⟨o,y,h1,⟨hi,e1⟩,h3,rfl,h5⟩:=hout i x hx
    obtain ⟨o',y',h1',⟨hi',e1'⟩,h3',rfl,h5'⟩:=hout i' x' hx'
    rw [bm,h5] at hb
    rw [bm,h5'] at hb'
    rw [h5,h5'] at he
    have:=hr.wf.inj o y o' y' h3 h3' hb hb' he
    exact kN hnd hi hi' (by rw [e1,e1',this])
  · intro i x hx hb
    obtain ⟨o,y,h1,_,h3,rfl,h5⟩:=hout i x hx
    rw [bm,h5] at hb
    rw [h5];exact hr.wf.lt o y h3 hb
  · intro i x j hx hb hI
    obtain ⟨o,y,h1,_,h3,rfl,h5⟩:=hout i x hx
    rw [bm,h5] at hb
    rw [h5] at hI ⊢
    rw [mU]
    exact hr.wf.imm o y j h3 hb hI
 refine hk E B ρ' a w hm ⟨?_,hr.size,hr.defers,?_,hwf,?_,?_⟩
 · intro t
   rw [qA]
   exact (hr.tm t).ren2 (fun _ _ h=>h) (fun o ho y hy=>hin o (pR T t hT o ho) y hy)
 · intro g cs hg
   have le0:Le ρ [] w ρ' [] w:=⟨fun o x hx=>by simp at hx,fun b j hI=>⟨hI,rfl⟩⟩
   exact (hr.glob g cs hg).nil_mono le0
 · refine ⟨hr.fr.os,hr.fr.tape,hr.fr.output,hr.fr.size,hr.fr.keep,hr.fr.imm,hr.fr.new,?_⟩
   intro i x hx hb hlt
   obtain ⟨o,y,h1,_,h3,rfl,h5⟩:=hout i x hx
   rw [bm,h5] at hb
   rw [h5] at hlt ⊢
   exact hr.fr.own o y h3 hb hlt
 · refine ⟨fun o x hx=>?_,hr.le.imm⟩
   obtain ⟨x',h1,h2⟩:=hr.le.obj o x hx
   have hlt:o<m:=hm▸(List.getElem?_eq_some_iff.1 hx).1
   have hko:=hpre o hlt
   refine ⟨x'.ren r,?_,?_⟩
   · show (eY r h ks)[o]?=_
     rw [fW,List.getElem?_map,hko]
     simp [h1,m8]
   · have:ρ'.loc o=ρ.loc o:=by
      show ρ.loc (ks.getD o 0)=_
      rw [List.getD_eq_getElem?_getD,hko];rfl
     rw [this]
     exact Cw r h2
theorem wR (t o:Nat) {es:List aa} {off len sz fr:Nat} (es':List aa) (hx:Tm.get T t=.own o off len) (ho:h[o]?=some (.arr sz es fr)) (htip:off+len=es.length) (hes:es.drop off=es') {d:Code}
 (hk:wpA cx n m d Q ((t,.imm es')::T) (h.set o (.arr sz es es.length))):wpA cx n m d Q T h:=by
 intro E B ρ a w hm hr
 obtain ⟨ρ1,g1,g2,g3,g4⟩:=lQ hr.wf hr.fr ho
 have hr1:=hr.step g1 g2 g3
 refine hk E B ρ1 a w hm ⟨fun t'=>?_,hr1.size,hr1.defers,hr1.glob,hr1.wf,hr1.fr,hr1.le⟩
 simp only [Tm.get]
 by_cases e:t=t'
 · subst e
   rw [if_pos rfl,← hes]
   exact g4 off len _ htip (hx▸hr.tm t)
 · rw [if_neg e];exact hr1.tm t'
end
section
variable {P:Program} {ev:Operand→aa} {op:Op} {h:ac}
theorem Dt {a b:Int} {ats:List Nat} (hv:se ev op=some (.min,ats,[.int .i64 a,.int .i64 b])):aop P h ev op=some (.int .i64 (min a b),h):=by
 rw [ga hv]
 have e:(if b<a then b else a)=min a b:=by
  split <;> omega
 match ats with
 | []=>simp only [cK,wL,c9];rw [e]
 | _::_=>simp only [cK,wL,c9];rw [e]
end
end Go.Proofs.YtdikgijfekfaoaaGreatDoor.Abs
namespace Go.Proofs.YtdikgijfekfaoaaGreatDoor.Abs
end Go.Proofs.YtdikgijfekfaoaaGreatDoor.Abs
namespace Go.Proofs.YtdikgijfekfaoaaGreatDoor.Abs
def Hc (ev:Operand→aa):Op→Option (Nat×aa)
 | .call { callee:=.builtin .clear,args,argTypes }=>match argTypes.toList,gQ ev args.toList with
  | [t],[x]=>some (t,x)
  | _,_=>none
 | _=>none
section
variable {cx:Cx} {bl:List BOp} {K:Tm→ac→Prop} {S:RSt}
theorem Ci {P:Program} {h:ac} {ev:Operand→aa} {op:Op} {t:Nat} {x:aa} {h':ac} (hv:Hc ev op=some (t,x)) (hc:m7 P h t x=some h'):aop P h ev op=none∧aH ev op=none∧anx P h ev op=some [(.tup [],h')]:=by
 unfold Hc at hv
 split at hv <;> try (simp at hv;done)
 rename_i args ats
 split at hv <;> simp at hv
 rename_i e1 e2
 obtain ⟨rfl,rfl⟩:=hv
 refine ⟨?_,rfl,?_⟩
 · simp only [aop,cK]
 · simp only [anx,e1,e2,Hj,hc,Option.map_some]
theorem Hw {t e o off len a b a' b' fr:Nat} {es:List aa} {z z':aa} {k':TyK} {H':ac} (hc:bF bl=true) (hg:bJ S.1 (hdB bl).g=some true) (hv:Hc (aev cx.G S.1) (hdB bl).op=some (t,.own o off len)) (ht:aX cx.P t=some ⟨.slice e,a,b,z⟩) (he:aX cx.P e=some ⟨k',a',b',z'⟩) (ho:S.2[o]?=some (.arr 1 es fr))
 (hl:off+len=es.length) (hf:fr≤off) (hz:z'.cells.length=1∧z'.cells.all aa.cellOk=true) (hH:S.2.set o (.arr 1 (es.take off++List.replicate len .any) fr)=H')
 (hk:bS cx bl.tail (b5 S.1 (hdB bl).dst (.tup []),H') K):bS cx bl S K:=by
 have hcl:m7 cx.P S.2 t (.own o off len)=some H':=by
  simp only [m7,ht,he,ho]
  rw [if_pos ⟨hl,hf,trivial,hz.1,hz.2⟩,hH]
 obtain ⟨g1,g2,g3⟩:=Ci hv hcl
 refine pF hc hg (L:=[(.tup [],H')]) g1 g2 g3 ?_
 intro r hr;rw [List.mem_singleton] at hr;subst hr;exact hk
end
section
variable {P:Program} {ev:Operand→aa} {op:Op} {h:ac}
theorem Hu {t e o len a b a' b' sz fr:Nat} {es:List aa} {z z':aa} {k':TyK} {k:IntKind} (hv:xG ev op=some (t,.own o 0 len,some (.int k 0),none)) (ht:aX P t=some ⟨.slice e,a,b,z⟩) (he:aX P e=some ⟨k',a',b',z'⟩) (ho:h[o]?=some (.arr sz es fr)) (hl:len=es.length) (hsz:sz=a') :
 aop P h ev op=some (.own o 0 len,h):=by
 rw [kT hv]
 have hb:cW len (some (.int k 0)) none=some (0,len):=by
  unfold cW
  simp
 simp only [gq,ht,he,ho]
 rw [if_pos ⟨by omega,hsz⟩,hb]
 rfl
theorem Dk {t e o len a b a' b' sz fr:Nat} {es:List aa} {z z':aa} {k':TyK} {k:IntKind} (hv:xG ev op=some (t,.own o 0 len,none,some (.int k 0))) (ht:aX P t=some ⟨.slice e,a,b,z⟩) (he:aX P e=some ⟨k',a',b',z'⟩) (ho:h[o]?=some (.arr sz es fr)) (hl:len=es.length) (hsz:sz=a') :
 aop P h ev op=some (.imm [],h):=by
 rw [kT hv]
 have hb:cW len none (some (.int k 0))=some (0,0):=by
  unfold cW
  simp
 simp only [gq,ht,he,ho]
 rw [if_pos ⟨by omega,hsz⟩,hb]
 rfl
end
end Go.Proofs.YtdikgijfekfaoaaGreatDoor.Abs
namespace Go.Proofs.YtdikgijfekfaoaaGreatDoor
open Go.Proofs.YtdikgijfekfaoaaGreatDoor.Abs
set_option maxRecDepth 20000
set_option maxHeartbeats 4000000
@[simp] theorem Jv (k:Nat) (l:List (Int×Ty)):((av iE Ty.v l).all fun e=>e.1.bel k && e.2.bel k)=true:=by
 simp [av,Ty.v,List.all_eq_true]
abbrev Bd:=List (Int×Ty)
def Jc (m:Bd) (n:Int) (t:Ty):Bool:=match ai n m with
 | none=>true
 | some o=>o.beq t
abbrev Fd:=List (List UInt8×Ty)
abbrev mF (l:Fd):af:=.map (av aa.str Ty.v l)
@[simp] theorem E2 (k:Nat) (l:Fd):((av aa.str Ty.v l).all fun e=>e.1.bel k && e.2.bel k)=true:=by
 simp [av,Ty.v,List.all_eq_true]
def cb (l:Fd) (k:Nat):List Ty:=((aD (l.map Prod.fst)).take k).map fun s=>(ai s l).getD Ty.zero
def recT (l:Fd) (n:Int):Ty:=.mk 5 [] n (aD (l.map Prod.fst)) (cb l (aD (l.map Prod.fst)).length)
theorem tp {l:Fd} {k:Nat} {x:Ty} (hk:k<(aD (l.map Prod.fst)).length) (h:ai ((aD (l.map Prod.fst)).getD k []) l=some x):cb l k++[x]=cb l (k+1):=by
 unfold cb
 rw [List.take_succ_eq_append_getElem hk,List.map_append,List.map_singleton]
 rw [List.getD_eq_getElem?_getD,List.getElem?_eq_getElem hk,Option.getD_some] at h
 rw [h];rfl
theorem vD (l:Fd) (k:Nat) (h:k≤(aD (l.map Prod.fst)).length):(cb l k).length=k:=by simp [cb,List.length_take];omega
theorem Ac {s:List UInt8}:∀ {l:Fd},s∈l.map Prod.fst→¬ ai s l=none
 | [],h=>by simp at h
 | p::l,h=>by
  rw [ai]
  split
  · simp
  · rename_i hne
    simp only [List.map_cons,List.mem_cons] at h
    rcases h with h|h
    · exact absurd h hne
    · exact Ac h
theorem sN {l:Fd} {k:Nat} (hk:k<(aD (l.map Prod.fst)).length):¬ ai ((aD (l.map Prod.fst)).getD k []) l=none:=by
 refine Ac ?_
 rw [List.getD_eq_getElem?_getD,List.getElem?_eq_getElem hk]
 exact (bU _).subset (List.getElem_mem hk)
def tL (l:Fd):Prop:=(l.map Prod.fst).Nodup∧(∀ p∈l,p.1.length≤1000000000)∧l.length<100000000
theorem yH {l:Fd} (h:tL l):(aD (l.map Prod.fst)).length<100000000:=by
 rw [(bU _).length_eq,List.length_map];exact h.2.2
noncomputable def IY:Code:=aB Tryz.f114
theorem CT (t u:Ty) (l:Fd) :ar cx 114 [.map 3] [t.bx,u.bx,.box zC,.map (av aa.str Ty.v l),.box zC] (fun v h=>v=.fn (.func 127) [] [.ptr 5 0]∧h=[t.bx,u.bx,.box zC,.map (av aa.str Ty.v l),.box zC,.box [.map 3]]):=by
 refine dN (cx:=cx) 4 5 [(ResultVar.tmp 2)] Tryz.func114 rfl rfl rfl rfl rfl zq ?_
 show wpA cx 4 5 (at_ IY []) _ _ _
 apply qZ [(0,.map 3)] [t.bx,u.bx,.box zC,.map (av aa.str Ty.v l),.box zC]
 apply qW 2 [(1,.ptr 5 0)] [t.bx,u.bx,.box zC,.map (av aa.str Ty.v l),.box zC,.box [.map 3]]
 apply qU 2 [(2,.fn (.func 127) [] [.ptr 5 0])]
 refine a8 kq ?_
 refine ee (l:=[.fn (.func 127) [] [.ptr 5 0]]) 6 [t.bx,u.bx,.box zC,.map (av aa.str Ty.v l),.box zC,.box [.map 3]] iq kq dq kq (by simp [aK,-List.map_append,-List.map_take,-List.map_drop,-List.append_assoc]) (by simp [af.belO,-List.map_append,-List.map_take,-List.map_drop,-List.append_assoc]) ?_
 · exact ⟨rfl,rfl⟩
 iterate 3 kernel_rfl
theorem BY (t u:Ty) (l:Fd) (hl:tL l):ar cx 113 [.fn (.func 127) [] [.ptr 5 0]] [t.bx,u.bx,.box zC,.map (av aa.str Ty.v l),.box zC,.box [.map 3]] (fun v h=>v=.imm ((aD (l.map Prod.fst)).map .str)∧h=[t.bx,u.bx,.box zC,.map (av aa.str Ty.v l),.box zC,.box [.map 3]]):=by
 have e:(l.map fun p=>(p.1,p.2.v)).map (·.1)=l.map Prod.fst:=by simp [Function.comp_def]
 have:=gR t7 (h:=[t.bx,u.bx,.box zC,.map (av aa.str Ty.v l),.box zC,.box [.map 3]]) (m:=3) (o:=5) (kv:=l.map fun p=>(p.1,p.2.v)) rfl (by simp [av,mN,Function.comp_def]) (by rw [e];exact hl.1)
  (fun p hp=>by obtain ⟨q,hq,rfl⟩:=List.mem_map.1 hp;exact hl.2.1 q hq) (by rw [List.length_map];have:=hl.2.2;omega)
 rw [e] at this
 exact this
noncomputable def c83:Code:=aB Tryz.f83
theorem I3 {p:Prop} (h:p:=by simp only [List.length_append,List.length_cons,List.length_nil];omega):p:=h
theorem og (t u:Ty) (l:Fd) (n:Int) (hl:tL l):ar cx 83 [.map 3,.int .i64 (n)] [t.bx,u.bx,.box zC,.map (av aa.str Ty.v l)] (fun v h=>v=(Ty.v (recT l n))∧h=[t.bx,u.bx,.box zC,.map (av aa.str Ty.v l)]):=by
 have hsl:=yH hl
 refine am (cx:=cx) 30 4 [(ResultVar.cell 4 25)] Tryz.func83 rfl rfl rfl rfl rfl zq ?_
 show wpA cx 30 4 (at_ c83 []) _ _ _
 apply qZ [(0,.map 3),(1,.int .i64 (n))] [t.bx,u.bx,.box zC,.map (av aa.str Ty.v l)]
 apply qW 1 [(0,.map 3),(1,.int .i64 (n)),(4,.ptr 4 0)] [t.bx,u.bx,.box zC,.map (av aa.str Ty.v l),.box zC]
 apply qV 2
 refine dD (args:=[.map 3]) (v:=.fn (.func 127) [] [.ptr 5 0]) (h':=[t.bx,u.bx,.box zC,.map (av aa.str Ty.v l),.box zC,.box [.map 3]]) [t.bx,u.bx,.box zC,.map (av aa.str Ty.v l),.box zC] kq kq kq kq kq (CT t u l) ?_
 refine dD (args:=[.fn (.func 127) [] [.ptr 5 0]]) (v:=.imm ((aD (l.map Prod.fst)).map aa.str)) (h':=[t.bx,u.bx,.box zC,.map (av aa.str Ty.v l),.box zC,.box [.map 3]]) [t.bx,u.bx,.box zC,.map (av aa.str Ty.v l),.box zC,.box [.map 3]] kq kq kq kq kq (BY t u l hl) ?_
 apply qR 3 [(0,.map 3),(4,.ptr 4 0),(5,.ptr 6 0)] [t.bx,u.bx,.box zC,.map (av aa.str Ty.v l),.box zC,.box [.map 3],.box [.int .i64 5,.str [],.int .i64 (n),.imm ((aD (l.map Prod.fst)).map aa.str),.full []]]
 refine mh 6 4 5 (cs:=[.int .i64 5,.str [],.int .i64 (n),.imm ((aD (l.map Prod.fst)).map aa.str),.full []]) [.int .i64 5,.str [],.int .i64 (n),.imm ((aD (l.map Prod.fst)).map aa.str),.own 7 0 0] dq kq kq kq ?_
 apply qZ [(0,.map 3),(4,.ptr 4 0),(5,.ptr 6 0)] [t.bx,u.bx,.box zC,.map (av aa.str Ty.v l),.box zC,.box [.map 3],.box [.int .i64 5,.str [],.int .i64 (n),.imm ((aD (l.map Prod.fst)).map aa.str),.own 7 0 0],.arr 5 (([]:List (Ty)).map Ty.enc) 0]
 apply ao
 apply qV 2
 refine qy (au (l:=(aD (l.map Prod.fst))) (enc:=aa.str) kq bi) ?_ ?_ ?_
 apply qR 1 [(0,.map 3),(4,.ptr 4 0),(5,.ptr 6 0),(14,.imm ((aD (l.map Prod.fst)).map aa.str)),(15,nI ((aD (l.map Prod.fst)).length)),(16,.int .i64 0)] [t.bx,u.bx,.box zC,.map (av aa.str Ty.v l),.box zC,.box [.map 3],.box [.int .i64 5,.str [],.int .i64 (n),.imm ((aD (l.map Prod.fst)).map aa.str),.own 7 0 0],.arr 5 (([]:List (Ty)).map Ty.enc) 0]
 apply qB 0
 refine bB (σ:=Nat) (fun k=>[(0,.map 3),(4,.ptr 4 0),(5,.ptr 6 0),(14,.imm ((aD (l.map Prod.fst)).map aa.str)),(15,.int .i64 (((aD (l.map Prod.fst)).length:Nat):Int)),(16,.int .i64 ((k:Nat):Int))]) (fun k=>[t.bx,u.bx,.box zC,.map (av aa.str Ty.v l),.box zC,.box [.map 3],.box [.int .i64 5,.str [],.int .i64 (n),.imm ((aD (l.map Prod.fst)).map aa.str),.own 7 0 (cb l k).length],.arr 5 ((cb l k).map Ty.enc) 0]) (fun k=>k≤(aD (l.map Prod.fst)).length) (fun k=>(aD (l.map Prod.fst)).length - k) 0 kq (by exact Nat.zero_le _) ⟨⟨kq,kq,kq,kq,kq,kq,trivial⟩,by simp [aQ,aa.bel],by simp,kq,by simp [af.belO,bL,Ty.enc_v]⟩ ?_
 rintro k hk
 have hrl:=vD l k hk
 apply qW 1 [(0,.map 3),(4,.ptr 4 0),(5,.ptr 6 0),(14,.imm ((aD (l.map Prod.fst)).map aa.str)),(15,nI ((aD (l.map Prod.fst)).length)),(16,nI k),(17,.bool (decide (((k:Nat):Int)<(((aD (l.map Prod.fst)).length:Nat):Int))))] [t.bx,u.bx,.box zC,.map (av aa.str Ty.v l),.box zC,.box [.map 3],.box [.int .i64 5,.str [],.int .i64 (n),.imm ((aD (l.map Prod.fst)).map aa.str),.own 7 0 (cb l k).length],.arr 5 ((cb l k).map Ty.enc) 0]
 apply ao
 by_cases hb1:((k:Nat):Int)<(((aD (l.map Prod.fst)).length:Nat):Int)
 apply qt (decide_eq_true hb1)
 apply qK
 apply qz [(0,.map 3),(4,.ptr 4 0),(5,.ptr 6 0),(14,.imm ((aD (l.map Prod.fst)).map aa.str)),(15,nI ((aD (l.map Prod.fst)).length)),(16,nI k)]
 apply ao
 apply qB 1
 apply qO
 refine qy (aA (k:=.i64) (l:=(aD (l.map Prod.fst))) (enc:=aa.str) (i:=((k:Nat):Int)) [] kq bi ty9 (fun _=>rfl) oq oq) ?_ ?_ ?_
 apply qR 2 [(0,.map 3),(4,.ptr 4 0),(5,.ptr 6 0),(7,.str ((aD (l.map Prod.fst)).getD k [])),(14,.imm ((aD (l.map Prod.fst)).map aa.str)),(15,nI ((aD (l.map Prod.fst)).length)),(16,nI k)] [t.bx,u.bx,.box zC,.map (av aa.str Ty.v l),.box zC,.box [.map 3],.box [.int .i64 5,.str [],.int .i64 (n),.imm ((aD (l.map Prod.fst)).map aa.str),.own 7 0 (cb l k).length],.arr 5 ((cb l k).map Ty.enc) 0]
 apply qo
 apply qr 4
 rcases hm2:ai ((aD (l.map Prod.fst)).getD k []) l with _|x2
 · exact absurd hm2 (sN oq)
 refine qy (cg (ok:=false) (o:=3) (ek:=aa.str) (ev:=Ty.v) (l:=l) (k:=((aD (l.map Prod.fst)).getD k [])) (x:=x2) qF hm2 kq tz ty9 rfl bV kq) ?_ ?_ ?_
 apply qr 1
 refine qY (bc (o:=7) (len:=((cb l k).length)) (l:=(cb l k)) (xs:=[x2]) (enc:=Ty.enc) (sz:=5) (fr:=0) (x:=(.full [Ty.v x2])) kq ba bV ba rfl kq rfl rfl (Eq.trans (b:=some [Ty.v x2]) kq (by simp [Ty.enc_v])) ⟨by decide,by kernel_rfl⟩ gZ I3 I3) ?_ ?_ ?_
 apply qr 2
 apply qe
 apply aj
 apply ab
 apply qZ [(0,.map 3),(4,.ptr 4 0),(5,.ptr 6 0),(14,.imm ((aD (l.map Prod.fst)).map aa.str)),(15,nI ((aD (l.map Prod.fst)).length)),(16,nI k)] [t.bx,u.bx,.box zC,.map (av aa.str Ty.v l),.box zC,.box [.map 3],.box [.int .i64 5,.str [],.int .i64 (n),.imm ((aD (l.map Prod.fst)).map aa.str),.own 7 0 ((cb l k)++[x2]).length],.arr 5 (((cb l k)++[x2]).map Ty.enc) 0]
 apply qo
 refine qy (aN (a:=((k:Nat):Int)) (b:=1) kq oq oq) ?_ ?_ ?_
 apply qr 1
 apply qe
 refine ab ⟨k+1,?_,?_,⟨⟨kq,kq,kq,kq,kq,kq,trivial⟩,by simp [aQ,aa.bel],by simp,(Eq.trans (b:=[t.bx,u.bx,.box zC,.map (av aa.str Ty.v l),.box zC,.box [.map 3],.box [.int .i64 5,.str [],.int .i64 (n),.imm ((aD (l.map Prod.fst)).map aa.str),.own 7 0 ((cb l k)++[x2]).length],.arr 5 (((cb l k)++[x2]).map Ty.enc) 0]) kq (by rw [tp oq aq])),by simp [af.belO,bL,Ty.enc_v]⟩⟩
 · omega
 · omega
 iterate 25 kernel_rfl
 apply qf (decide_eq_false hb1)
 refine bn 0 kq kq ?_
 apply ae
 apply ae
 apply ay
 apply ab
 apply qz [(4,.ptr 4 0),(5,.ptr 6 0)]
 refine n8 6 4 7 (cs:=[.int .i64 5,.str [],.int .i64 (n),.imm ((aD (l.map Prod.fst)).map aa.str),.own 7 0 (cb l k).length]) (es:=((cb l k).map Ty.enc)) (off:=0) (len:=((cb l k).length)) (sz:=5) (fr:=0) [.int .i64 5,.str [],.int .i64 (n),.imm ((aD (l.map Prod.fst)).map aa.str),.imm ((cb l k).map Ty.enc)] ((cb l k).map Ty.enc) dq kq kq kq zq kq kq ?_
 apply qZ [(4,.ptr 4 0),(5,.ptr 6 0)] [t.bx,u.bx,.box zC,.map (av aa.str Ty.v l),.box zC,.box [.map 3],.box [.int .i64 5,.str [],.int .i64 (n),.imm ((aD (l.map Prod.fst)).map aa.str),.imm ((cb l k).map Ty.enc)],.arr 5 ((cb l k).map Ty.enc) ((cb l k).map Ty.enc).length]
 apply qW 2 [(4,.ptr 4 0)] [t.bx,u.bx,.box zC,.map (av aa.str Ty.v l),.box [.int .i64 5,.str [],.int .i64 (n),.imm ((aD (l.map Prod.fst)).map aa.str),.imm ((cb l k).map Ty.enc)],.box [.map 3],.box [.int .i64 5,.str [],.int .i64 (n),.imm ((aD (l.map Prod.fst)).map aa.str),.imm ((cb l k).map Ty.enc)],.arr 5 ((cb l k).map Ty.enc) ((cb l k).map Ty.enc).length]
 refine a8 kq ?_
 refine aM (l:=[.agg [.int .i64 5,.str [],.int .i64 (n),.imm ((aD (l.map Prod.fst)).map aa.str),.imm ((cb l k).map Ty.enc)]]) iq kq (by have hkk:k=(aD (l.map Prod.fst)).length:=oq;subst hkk;simp [Ty.v,aa.frz,bf,aK,recT]) (by simp [aK]) (by simp [aK]) ?_ ?_
 refine Eq.trans (b:=[t.bx,u.bx,.box zC,.map (av aa.str Ty.v l)]) kq ?_
 · rfl
 · simp [af.belO,hpV,Ty.v]
 iterate 18 kernel_rfl
def onL (t u:Ty):Nat→Fd
 | 0=>[]
 | k+1=>if u.names.contains (t.names.getD k [])=true then onL t u k else aI (t.names.getD k []) (t.kids.getD k Ty.zero) (onL t u k)
theorem Er {t u:Ty} {k:Nat} (h:u.names.contains (t.names.getD k [])=true):onL t u k=onL t u (k+1):=by rw [onL,if_pos h]
theorem Hi {t u:Ty} {k:Nat} (h:¬ u.names.contains (t.names.getD k [])=true):aI (t.names.getD k []) (t.kids.getD k Ty.zero) (onL t u k)=onL t u (k+1):=by rw [onL,if_neg h]
theorem fU (s:List UInt8) (x:Ty):∀ l:Fd,(aI s x l).map Prod.fst=if s∈l.map Prod.fst then l.map Prod.fst else l.map Prod.fst++[s]
 | []=>by simp [aI]
 | p::l=>by
  rw [aI]
  by_cases e:s=p.1
  · rw [if_pos e,List.map_cons,if_pos (by rw [List.map_cons];exact List.mem_cons.2 (.inl e)),List.map_cons,e]
  · rw [if_neg e,List.map_cons,List.map_cons,fU s x l]
    by_cases hm:s∈l.map Prod.fst
    · rw [if_pos hm,if_pos (List.mem_cons_of_mem _ hm)]
    · rw [if_neg hm,if_neg (by simp only [List.mem_cons,not_or];exact ⟨e,hm⟩)];rfl
theorem gp (t u:Ty):∀ k,((onL t u k).map Prod.fst).Nodup∧(onL t u k).length≤k∧∀ s∈(onL t u k).map Prod.fst,∃ i,i<k∧s=t.names.getD i []
 | 0=>by simp [onL]
 | k+1=>by
  obtain ⟨h1,h2,h3⟩:=gp t u k
  rw [onL]
  split
  · exact ⟨h1,by omega,fun s hs=>by obtain ⟨i,hi,e⟩:=h3 s hs;exact ⟨i,by omega,e⟩⟩
  · have hl:(aI (t.names.getD k []) (t.kids.getD k Ty.zero) (onL t u k)).length≤k+1:=by
     rw [← List.length_map (f:=Prod.fst),fU]
     split
     · rw [List.length_map];omega
     · rw [List.length_append,List.length_map];simp;omega
    refine ⟨?_,hl,?_⟩
    · rw [fU]
      split
      · exact h1
      · rename_i hm
        rw [List.nodup_append]
        exact ⟨h1,by simp,fun a ha b hb=>by simp only [List.mem_singleton] at hb;subst hb;rintro rfl;exact hm ha⟩
    · intro s hs
      rw [fU] at hs
      split at hs
      · obtain ⟨i,hi,e⟩:=h3 s hs;exact ⟨i,by omega,e⟩
      · rcases List.mem_append.1 hs with hs|hs
        · obtain ⟨i,hi,e⟩:=h3 s hs;exact ⟨i,by omega,e⟩
        · exact ⟨k,by omega,by simpa using hs⟩
theorem G9 (t u:Ty) (k:Nat) (hs:t.sz<100000000) (hk:k≤t.names.length):tL (onL t u k):=by
 obtain ⟨h1,h2,h3⟩:=gp t u k
 have hn:=bP t
 refine ⟨h1,fun p hp=>?_,by omega⟩
 obtain ⟨i,_,e⟩:=h3 p.1 (List.mem_map_of_mem hp)
 rw [e]
 have:=fy t i
 omega
noncomputable def JH:Code:=aB Tryz.f100
theorem E9 {p:Prop} (h:p:=by simp [af.belO,Ty.v]):p:=h
theorem tb (t u:Ty) (n:Int) (hs:t.sz<100000000) (hu:u.sz<100000000) (hnk:t.names.length=t.kids.length):aC cx 100 [Ty.v t,Ty.v u,.int .i64 (n)] (Ty.v (recT (onL t u t.names.length) n)):=by
 have hz1:=bP t
 have hz2:=cF t
 have hz3:=bP u
 refine am (cx:=cx) 35 0 [(ResultVar.cell 6 25)] Tryz.func100 rfl rfl rfl rfl rfl zq ?_
 show wpA cx 35 0 (at_ JH []) _ _ _
 apply qZ [(0,Ty.v t),(1,Ty.v u),(2,.int .i64 (n))] []
 apply qW 3 [(2,.int .i64 (n)),(3,.ptr 0 0),(4,.ptr 1 0),(6,.ptr 2 0)] [t.bx,u.bx,.box zC]
 apply qW 2 [(2,.int .i64 (n)),(3,.ptr 0 0),(4,.ptr 1 0),(6,.ptr 2 0),(7,.map 3)] [t.bx,u.bx,.box zC,.map (av aa.str Ty.v ([]:List (List UInt8×Ty)))]
 apply ao
 apply qV 2
 refine qy (au (l:=t.names) (enc:=aa.str) kq bi) ?_ ?_ ?_
 apply qR 1 [(2,.int .i64 (n)),(3,.ptr 0 0),(4,.ptr 1 0),(6,.ptr 2 0),(7,.map 3),(12,.imm (t.names.map aa.str)),(13,nI t.names.length),(14,.int .i64 0)] [t.bx,u.bx,.box zC,.map (av aa.str Ty.v ([]:List (List UInt8×Ty)))]
 apply qB 0
 refine bB (σ:=Nat) (fun k=>[(2,.int .i64 (n)),(3,.ptr 0 0),(4,.ptr 1 0),(6,.ptr 2 0),(7,.map 3),(12,.imm (t.names.map aa.str)),(13,.int .i64 ((t.names.length:Nat):Int)),(14,.int .i64 ((k:Nat):Int))]) (fun k=>[t.bx,u.bx,.box zC,.map (av aa.str Ty.v (onL t u k))]) (fun k=>k≤t.names.length) (fun k=>t.names.length - k) 0 kq (by exact Nat.zero_le _) ⟨⟨kq,kq,kq,kq,kq,kq,kq,kq,trivial⟩,by simp [aQ,aa.bel],by simp,kq,by simp [af.belO]⟩ ?_
 rintro k hk
 apply qW 1 [(2,.int .i64 (n)),(3,.ptr 0 0),(4,.ptr 1 0),(6,.ptr 2 0),(7,.map 3),(12,.imm (t.names.map aa.str)),(13,nI t.names.length),(14,nI k),(15,.bool (decide (((k:Nat):Int)<((t.names.length:Nat):Int))))] [t.bx,u.bx,.box zC,.map (av aa.str Ty.v (onL t u k))]
 apply ao
 by_cases hb1:((k:Nat):Int)<((t.names.length:Nat):Int)
 apply qt (decide_eq_true hb1)
 apply qK
 apply qz [(2,.int .i64 (n)),(3,.ptr 0 0),(4,.ptr 1 0),(6,.ptr 2 0),(7,.map 3),(12,.imm (t.names.map aa.str)),(13,nI t.names.length),(14,nI k)]
 apply ao
 apply qB 1
 apply qV 1
 refine qy (aA (k:=.i64) (l:=t.names) (enc:=aa.str) (i:=((k:Nat):Int)) [] kq bi ty9 (fun _=>rfl) oq oq) ?_ ?_ ?_
 apply qR 3 [(2,.int .i64 (n)),(3,.ptr 0 0),(4,.ptr 1 0),(6,.ptr 2 0),(7,.map 3),(8,nI k),(9,.str (t.names.getD k [])),(12,.imm (t.names.map aa.str)),(13,nI t.names.length),(14,nI k)] [t.bx,u.bx,.box zC,.map (av aa.str Ty.v (onL t u k))]
 apply qV 3
 refine bR (args:=[.imm (u.names.map aa.str),.str (t.names.getD k [])]) kq kq kq kq (fE u.names (t.names.getD k []) oq) (by simp [Ty.v,bo,Occ.v]) (by simp [Ty.v]) (by simp [Ty.v,bh]) ?_
 apply qR 1 [(2,.int .i64 (n)),(3,.ptr 0 0),(4,.ptr 1 0),(6,.ptr 2 0),(7,.map 3),(8,nI k),(9,.str (t.names.getD k [])),(12,.imm (t.names.map aa.str)),(13,nI t.names.length),(14,nI k),(23,.bool (!(u.names.contains (t.names.getD k []))))] [t.bx,u.bx,.box zC,.map (av aa.str Ty.v (onL t u k))]
 by_cases hb2:(u.names.contains (t.names.getD k []))=true
 refine qf (x:=(!(u.names.contains (t.names.getD k [])))) (congrArg not (hb2)) ?_ ?_
 apply qk
 apply aj
 apply ab
 apply qz [(2,.int .i64 (n)),(3,.ptr 0 0),(4,.ptr 1 0),(6,.ptr 2 0),(7,.map 3),(12,.imm (t.names.map aa.str)),(13,nI t.names.length),(14,nI k)]
 apply qo
 refine qy (aN (a:=((k:Nat):Int)) (b:=1) kq oq oq) ?_ ?_ ?_
 apply qr 1
 apply qe
 refine ab ⟨k+1,?_,?_,⟨⟨kq,kq,kq,kq,kq,kq,kq,kq,trivial⟩,by simp [aQ,aa.bel],by simp,(Eq.trans (b:=[t.bx,u.bx,.box zC,.map (av aa.str Ty.v (onL t u k))]) kq (by rw [Er aq])),by simp [af.belO]⟩⟩
 · omega
 · omega
 iterate 8 kernel_rfl
 refine qt (x:=(!(u.names.contains (t.names.getD k [])))) (congrArg not (Bool.eq_false_iff.2 hb2)) ?_ ?_
 apply qo
 apply qr 5
 refine qy ((aA (k:=.i64) (l:=t.kids) (enc:=Ty.enc) (i:=((k:Nat):Int)) Ty.zero kq ba bV bk oq oq).trans (congrArg (fun cs=>some (aa.pimm cs 0,_)) (aU (t.kids.getD k Ty.zero)))) ?_ ?_ ?_
 apply qr 1
 refine qY (dC (o:=3) (ek:=aa.str) (ev:=Ty.v) (l:=(onL t u k)) (k:=(t.names.getD k [])) (x:=(t.kids.getD k Ty.zero)) qF kq tz ty9 rfl kq kq) ?_ ?_ ?_
 apply qe
 apply aj
 apply ab
 apply qZ [(2,.int .i64 (n)),(3,.ptr 0 0),(4,.ptr 1 0),(6,.ptr 2 0),(7,.map 3),(12,.imm (t.names.map aa.str)),(13,nI t.names.length),(14,nI k)] [t.bx,u.bx,.box zC,.map (av aa.str Ty.v (aI (t.names.getD k []) (t.kids.getD k Ty.zero) (onL t u k)))]
 apply qo
 refine qy (aN (a:=((k:Nat):Int)) (b:=1) kq oq oq) ?_ ?_ ?_
 apply qr 1
 apply qe
 refine ab ⟨k+1,?_,?_,⟨⟨kq,kq,kq,kq,kq,kq,kq,kq,trivial⟩,by simp [aQ,aa.bel],by simp,(Eq.trans (b:=[t.bx,u.bx,.box zC,.map (av aa.str Ty.v (aI (t.names.getD k []) (t.kids.getD k Ty.zero) (onL t u k)))]) kq (by rw [Hi aq])),by simp [af.belO]⟩⟩
 · omega
 · omega
 iterate 27 kernel_rfl
 apply qf (decide_eq_false hb1)
 refine bn 0 kq kq ?_
 apply ae
 apply ae
 apply ay
 apply ab
 apply qz [(2,.int .i64 (n)),(6,.ptr 2 0),(7,.map 3)]
 apply qV 2
 refine aT (args:=[.map 3,.int .i64 (n)]) (hs:=[t.bx,u.bx,.box zC,.map (av aa.str Ty.v (onL t u k))]) (hs':=[t.bx,u.bx,.box zC,.map (av aa.str Ty.v (onL t u k))]) (aO:=[]) kq kq kq kq kq (og t u (onL t u k) (n) (by (first|exact G9 t u _ hs oq))) E9 E9 rfl E9 E9 kq ?_
 apply qR 1 [(6,.ptr 2 0)] [t.bx,u.bx,(recT (onL t u k) (n)).bx,.map (av aa.str Ty.v (onL t u k))]
 refine a8 kq ?_
 refine fk (l:=[aG (recT (onL t u k) (n))]) iq kq ?_
 · obtain rfl:k=t.names.length:=by omega
   simp [Ty.v,aa.frz,bf,aK]
 iterate 16 kernel_rfl
theorem pb {α:Type} {l:List α} {k:Nat} {d:α} (h:k<l.length):l.drop k=l.getD k d::l.drop (k+1):=by
 rw [List.drop_eq_getElem_cons h,List.getD_eq_getElem?_getD,List.getElem?_eq_getElem h];rfl
noncomputable def c4:Code:=aB Tryz.f4
def isV (k n:Int):Bool:=decide (k=6) || (decide (k=5) && decide (n≠0))
noncomputable def JI:Code:=aB Tryz.f104
theorem pM (k n:Int) (x:List UInt8) :aC cx 104 [.agg [.int .i64 (k),.str x,.int .i64 (n),.any,.any]] (.bool (isV k n)):=by
 refine am (cx:=cx) 16 0 [(ResultVar.tmp 2)] Tryz.func104 rfl rfl rfl rfl rfl zq ?_
 show wpA cx 16 0 (at_ JI []) _ _ _
 apply qZ [(0,.agg [.int .i64 (k),.str x,.int .i64 (n),.any,.any])] []
 apply qW 2 [(1,.ptr 0 0)] [.box [.int .i64 (k),.str x,.int .i64 (n),.any,.any]]
 apply qV 4
 by_cases hb1:(k)=6
 apply qm [5,6] (beq_iff_eq.2 hb1)
 apply qX 10
 refine aL (b:=true) iq kq ?_
 · simp [isV, *]
 iterate 2 kernel_rfl
 apply qm [5,6] (beq_eq_false_iff_ne.2 hb1)
 apply qr 4
 by_cases hb2:(k)=5
 apply qm [9,10] (beq_iff_eq.2 hb2)
 apply qX 6
 refine aL (b:=((n) != 0)) iq kq ?_
 by_cases hb3:(n)=0
 refine Eq.trans (bne_eq_false_iff_eq.2 hb3) ?_
 · simp [isV, *]
 refine Eq.trans (bne_iff_ne.2 hb3) ?_
 · simp [isV, *]
 iterate 2 kernel_rfl
 apply qm [9,10] (beq_eq_false_iff_ne.2 hb2)
 apply qX 6
 refine aL (b:=false) iq kq ?_
 · simp [isV, *]
 iterate 7 kernel_rfl
def oZ (l:List Int) (s:Int):Int:=match l.findIdx? (·==s) with
 | some i=>(i:Nat)
 | none=>-1
theorem ta {l:List Int} {s:Int} {k:Nat} (hk:k<l.length) (ha:∀ i,i<k→¬ s=l.getD i 0) (h:s=l.getD k 0):((k:Nat):Int)=oZ l s:=by
 have e:∀ i (h:i<l.length),l.getD i 0=l[i]:=fun i h=>by rw [List.getD_eq_getElem?_getD,List.getElem?_eq_getElem h];rfl
 have:l.findIdx? (·==s)=some k:=by
  rw [List.findIdx?_eq_some_iff_getElem]
  refine ⟨hk,by rw [← e k hk,← h];simp,fun j hj=>?_⟩
  have:=ha j hj
  rw [e j oq] at this
  simpa using fun h=>this h.symm
 simp [oZ,this]
theorem s6 {l:List Int} {s:Int} (ha:∀ i,i<l.length→¬ s=l.getD i 0):-1=oZ l s:=by
 have:l.findIdx? (·==s)=none:=by
  rw [List.findIdx?_eq_none_iff]
  intro x hx
  obtain ⟨i,hi,rfl⟩:=List.getElem_of_mem hx
  have:=ha i hi
  rw [List.getD_eq_getElem?_getD,List.getElem?_eq_getElem hi] at this
  simpa using fun h:l[i]=s=>this h.symm
 simp [oZ,this]
theorem lA (l:List Int) (s:Int):decide (oZ l s ≥ 0)=l.contains s:=by
 rw [Bool.eq_iff_iff]
 simp only [decide_eq_true_eq,List.contains_iff_mem]
 unfold oZ
 split
 · rename_i i hi
   obtain ⟨h1,h2,_⟩:=List.findIdx?_eq_some_iff_getElem.1 hi
   simp at h2
   exact ⟨fun _=>h2▸List.getElem_mem h1,fun _=>by omega⟩
 · rename_i hi
   rw [List.findIdx?_eq_none_iff] at hi
   exact ⟨fun h=>by omega,fun h=>by have:=hi s h;simp at this⟩
theorem Et {l:List Int} {n:Int} {k:Nat} (hk:k<l.length) (h:l.getD k 0=n):l.contains n=true:=by
 rw [List.contains_iff_mem,← h,List.getD_eq_getElem?_getD,List.getElem?_eq_getElem hk];exact List.getElem_mem hk
theorem Hd {l:List Int} {n:Int} (ha:∀ i,i<l.length→¬ l.getD i 0=n):l.contains n=false:=by
 rw [Bool.eq_false_iff,Ne,List.contains_iff_mem]
 intro hm
 obtain ⟨i,hi,e⟩:=List.getElem_of_mem hm
 exact ha i hi (by rw [List.getD_eq_getElem?_getD,List.getElem?_eq_getElem hi];exact e)
noncomputable def ID:Code:=aB Tryz.f116
theorem zn (l:List Int) (n:Int) (hn:l.length<1000000000):aC cx 116 [.imm (l.map iE),.int .i64 (n)] (.int .i64 (oZ l n)):=by
 refine am (cx:=cx) 19 0 [(ResultVar.tmp 4)] Tryz.func116 rfl rfl rfl rfl rfl zq ?_
 show wpA cx 19 0 (at_ ID []) _ _ _
 apply qZ [(0,.imm (l.map iE)),(1,.int .i64 (n))] []
 apply qU 1 [(0,.imm (l.map iE)),(1,.int .i64 (n))]
 apply ao
 apply qV 1
 refine qy (au (l:=l) (enc:=iE) kq cU) ?_ ?_ ?_
 apply qR 1 [(0,.imm (l.map iE)),(1,.int .i64 (n)),(7,nI l.length),(8,.int .i64 0)] []
 apply qB 0
 refine bB (σ:=Nat) (fun k=>[(0,.imm (l.map iE)),(1,.int .i64 (n)),(7,.int .i64 ((l.length:Nat):Int)),(8,.int .i64 ((k:Nat):Int))]) (fun k=>[]) (fun k=>k≤l.length∧∀ i,i<k→¬ n=l.getD i 0) (fun k=>l.length - k) 0 kq zq ⟨⟨kq,kq,kq,kq,trivial⟩,by simp [aQ,aa.bel],by simp,kq,by simp⟩ ?_
 rintro k ⟨hk,ha⟩
 apply qW 1 [(0,.imm (l.map iE)),(1,.int .i64 (n)),(7,nI l.length),(8,nI k),(9,.bool (decide (((k:Nat):Int)<((l.length:Nat):Int))))] []
 apply ao
 by_cases hb1:((k:Nat):Int)<((l.length:Nat):Int)
 apply qt (decide_eq_true hb1)
 apply qK
 apply qz [(0,.imm (l.map iE)),(1,.int .i64 (n)),(7,nI l.length),(8,nI k)]
 apply ao
 apply qB 1
 apply qU 2 [(0,.imm (l.map iE)),(1,.int .i64 (n)),(5,nI k),(7,nI l.length),(8,nI k)]
 apply qV 3
 refine qy (aA (k:=.i64) (l:=l) (enc:=iE) (i:=((k:Nat):Int)) 0 kq cU ty3 (fun _=>rfl) oq oq) ?_ ?_ ?_
 apply qR 2 [(0,.imm (l.map iE)),(1,.int .i64 (n)),(5,nI k),(7,nI l.length),(8,nI k),(16,.bool ((n)==((l.getD k 0))))] []
 by_cases hb2:(n)=((l.getD k 0))
 apply qt (beq_iff_eq.2 hb2)
 apply qV 2
 apply qT
 apply iR
 apply aR
 apply aR
 apply iR
 apply aR
 refine b9 (n:=((k:Nat):Int)) iq kq ?_
 rotate_left
 iterate 3 kernel_rfl
 apply qf (beq_eq_false_iff_ne.2 hb2)
 apply qk
 apply aj
 apply ab
 apply qz [(0,.imm (l.map iE)),(1,.int .i64 (n)),(7,nI l.length),(8,nI k)]
 apply qo
 refine qy (aN (a:=((k:Nat):Int)) (b:=1) kq oq oq) ?_ ?_ ?_
 apply qr 1
 apply qe
 refine ab ⟨k+1,?_,?_,⟨⟨kq,kq,kq,kq,trivial⟩,by simp [aQ,aa.bel],by simp,kq,by simp⟩⟩
 · omega
 · refine ⟨by omega,fun i hi=>?_⟩
   rcases Nat.lt_succ_iff_lt_or_eq.1 hi with h|h
   · exact ha i h
   · subst h;assumption
 iterate 19 kernel_rfl
 apply qf (decide_eq_false hb1)
 refine bn 0 kq kq ?_
 apply ae
 apply ae
 apply ay
 apply ab
 apply qz []
 apply qV 1
 apply qT
 refine b9 (n:=(-1)) iq kq ?_
 rotate_left
 iterate 15 kernel_rfl
 all_goals
  first|exact ta oq ha aq|exact s6 (fun i hi=>ha i oq)
noncomputable def c88:Code:=aB Tryz.f88
theorem oK (l:List Int) (n:Int) (hn:l.length<1000000000):aC cx 88 [.imm (l.map iE),.int .i64 (n)] (.bool (l.contains n)):=by
 refine am (cx:=cx) 9 0 [(ResultVar.tmp 4)] Tryz.func88 rfl rfl rfl rfl rfl zq ?_
 show wpA cx 9 0 (at_ c88 []) _ _ _
 apply qZ [(0,.imm (l.map iE)),(1,.int .i64 (n))] []
 apply qU 1 [(0,.imm (l.map iE)),(1,.int .i64 (n))]
 apply qV 2
 refine bR (args:=[.imm (l.map iE),.int .i64 (n)]) kq kq kq kq (zn l (n) oq) (by simp [Ty.v,bo,Occ.v]) (by simp [Ty.v]) (by simp [Ty.v,bh]) ?_
 apply qX 2
 refine aL (b:=(decide ((oZ l (n)) ≥ 0))) iq kq ?_
 · exact lA l n
 iterate 4 kernel_rfl
noncomputable def c79:Code:=aB Tryz.f79
theorem sL (l:List Int) (n:Int) (hn:l.length<1000000000):aC cx 79 [.imm (l.map iE),.int .i64 (n)] (.bool (l.contains n)):=by
 refine am (cx:=cx) 18 0 [(ResultVar.tmp 4)] Tryz.func79 rfl rfl rfl rfl rfl zq ?_
 show wpA cx 18 0 (at_ c79 []) _ _ _
 apply qZ [(0,.imm (l.map iE)),(1,.int .i64 (n))] []
 apply qU 1 [(0,.imm (l.map iE)),(1,.int .i64 (n))]
 apply ao
 apply qU 1 [(0,.imm (l.map iE)),(1,.int .i64 (n)),(5,.int .i64 0)]
 apply qB 0
 refine bB (σ:=Nat) (fun k=>[(0,.imm (l.map iE)),(1,.int .i64 (n)),(5,.int .i64 ((k:Nat):Int))]) (fun k=>[]) (fun k=>k≤l.length∧∀ i,i<k→¬ l.getD i 0=n) (fun k=>l.length - k) 0 kq zq ⟨⟨kq,kq,kq,trivial⟩,by simp [aQ,aa.bel],by simp,kq,by simp⟩ ?_
 rintro k ⟨hk,ha⟩
 apply ao
 apply qV 2
 refine qy (au (l:=l) (enc:=iE) kq cU) ?_ ?_ ?_
 apply qR 1 [(0,.imm (l.map iE)),(1,.int .i64 (n)),(5,nI k),(9,.bool (decide (((k:Nat):Int)<((l.length:Nat):Int))))] []
 by_cases hb1:((k:Nat):Int)<((l.length:Nat):Int)
 apply qt (decide_eq_true hb1)
 apply qK
 apply qz [(0,.imm (l.map iE)),(1,.int .i64 (n)),(5,nI k)]
 apply ao
 apply qB 1
 apply qV 2
 refine qy (aA (k:=.i64) (l:=l) (enc:=iE) (i:=((k:Nat):Int)) 0 kq cU ty3 (fun _=>rfl) oq oq) ?_ ?_ ?_
 apply qR 3 [(0,.imm (l.map iE)),(1,.int .i64 (n)),(5,nI k),(17,.bool (((l.getD k 0))==(n)))] []
 by_cases hb2:((l.getD k 0))=(n)
 apply qt (beq_iff_eq.2 hb2)
 apply qV 1
 apply qT
 apply iR
 apply aR
 apply aR
 apply iR
 apply aR
 refine aL (b:=true) iq kq ?_
 rotate_left
 iterate 3 kernel_rfl
 apply qf (beq_eq_false_iff_ne.2 hb2)
 apply qk
 apply aj
 apply ab
 apply qz [(0,.imm (l.map iE)),(1,.int .i64 (n)),(5,nI k)]
 apply qo
 apply qr 1
 refine qy (aN (a:=((k:Nat):Int)) (b:=1) kq oq oq) ?_ ?_ ?_
 apply qr 1
 apply qe
 refine ab ⟨k+1,?_,?_,⟨⟨kq,kq,kq,trivial⟩,by simp [aQ,aa.bel],by simp,kq,by simp⟩⟩
 · omega
 · refine ⟨by omega,fun i hi=>?_⟩
   rcases Nat.lt_succ_iff_lt_or_eq.1 hi with h|h
   · exact ha i h
   · subst h;assumption
 iterate 19 kernel_rfl
 apply qf (decide_eq_false hb1)
 refine bn 0 kq kq ?_
 apply ae
 apply ae
 apply ay
 apply ab
 apply qz []
 apply qV 1
 apply qT
 refine aL (b:=false) iq kq ?_
 rotate_left
 iterate 15 kernel_rfl
 all_goals
  first|exact (Et (k:=k) oq aq).symm|exact (Hd (fun i hi=>ha i oq)).symm
def cP (l:List Int) (n:Int):List Int:=if l.contains n then l else l++[n]
def aw (l:List Int) (t:Ty):List Int:=((az t).map Occ.n).foldl cP l
def bO (l:List Int) (ks:List Ty):List Int:=((aF ks).map Occ.n).foldl cP l
def cf (l:List Int) (t:Ty):List Int:=if isV t.kind t.n then cP l t.n else l
theorem C5 (l:List Int) (t:Ty) (h:¬ t.kind=5):aw l t=bO (cf l t) t.kids:=by
 unfold aw bO cf isV
 rw [kB,rW,rV,if_neg (fun hc:t.kind=5∧t.n≠0=>h hc.1),List.append_nil]
 by_cases h6:t.kind=6
 · rw [if_pos h6,if_pos (by simp [h6])];rfl
 · rw [if_neg h6,if_neg (by simp [h6,h])];rfl
theorem DP (l:List Int) (t:Ty) (h:t.kind=5):aw l t=cf (bO l t.kids) t:=by
 unfold aw bO cf isV
 rw [kB,rW,rV,if_neg oq,List.nil_append,List.map_append,List.foldl_append]
 by_cases hn:t.n=0
 · rw [if_neg (fun hc=>hc.2 hn),if_neg (by simp [h,hn])];rfl
 · rw [if_pos ⟨h,hn⟩,if_pos (by simp [h,hn])];rfl
theorem zh (l:List Int) (ks:List Ty) (k:Nat) (h:k<ks.length):bO l (ks.take (k+1))=aw (bO l (ks.take k)) (ks.getD k Ty.zero):=by
 unfold bO aw
 rw [ru ks k h,List.map_append,List.foldl_append]
theorem xw (l:List Int) (n:Int):(cP l n).length≤l.length+1:=by unfold cP;split <;> simp
theorem iK:∀ (xs l:List Int),(xs.foldl cP l).length≤l.length+xs.length
 | [],l=>by simp
 | x::xs,l=>by have:=iK xs (cP l x);have:=xw l x;simp only [List.foldl_cons,List.length_cons];omega
theorem ix (l:List Int) (t:Ty):(aw l t).length≤l.length+t.sz:=by
 have:=iK ((az t).map Occ.n) l;have:=mj t;rw [List.length_map] at *;unfold aw;omega
theorem s8 (l:List Int) (ks:List Ty):(bO l ks).length≤l.length+Ty.szL ks:=by
 have:=iK ((aF ks).map Occ.n) l;have:=kU ks;rw [List.length_map] at *;unfold bO;omega
theorem B6 (l:List Int) (t:Ty):(cf l t).length≤l.length+1:=by
 unfold cf;split
 · exact xw l t.n
 · omega
def hpN (u:Ty) (l:List Int):ac:=[u.bx,.box [.own 2 0 l.length],.arr 1 (l.map iE) 0]
theorem H3 {p:Prop} (h:p:=by simp only [aK,aa.frz];congr 1;first|exact ta oq (fun i hi=>by have:=ha i hi;rwa [Nat.zero_add] at this) (by rw [← Nat.zero_add k];assumption)|exact s6 (fun i hi=>by have:=ha i oq;rwa [Nat.zero_add] at this)):p:=h
theorem im {p:Prop} (h:p:=by simp [aK]):p:=h
theorem wJ (l:List Int) (n:Int) (u:Ty) (hn:l.length<1000000000):ar cx 116 [.own 2 0 l.length,.int .i64 (n)] [u.bx,.box [.own 2 0 l.length],.arr 1 (l.map iE) 0] (fun v h=>v=(.int .i64 (oZ l n))∧h=[u.bx,.box [.own 2 0 l.length],.arr 1 (l.map iE) 0]):=by
 refine am (cx:=cx) 19 3 [(ResultVar.tmp 4)] Tryz.func116 rfl rfl rfl rfl rfl zq ?_
 show wpA cx 19 3 (at_ ID []) _ _ _
 apply qZ [(0,.own 2 0 l.length),(1,.int .i64 (n))] [u.bx,.box [.own 2 0 l.length],.arr 1 (l.map iE) 0]
 apply qU 1 [(0,.own 2 0 l.length),(1,.int .i64 (n))]
 apply ao
 apply qV 1
 refine qy (d8 (o:=2) (off:=0) (len:=l.length) (sz:=1) (es:=(l.map iE)) (fr:=0) kq cU kq zq) ?_ ?_ ?_
 apply qR 1 [(0,.own 2 0 l.length),(1,.int .i64 (n)),(7,nI l.length),(8,.int .i64 0)] [u.bx,.box [.own 2 0 l.length],.arr 1 (l.map iE) 0]
 apply qB 0
 refine bB (σ:=Nat) (fun k=>[(0,.own 2 0 l.length),(1,.int .i64 (n)),(7,.int .i64 ((l.length:Nat):Int)),(8,.int .i64 ((k:Nat):Int))]) (fun k=>[u.bx,.box [.own 2 0 l.length],.arr 1 (l.map iE) 0]) (fun k=>k≤l.length∧∀ i,i<k→¬ n=l.getD (0+i) 0) (fun k=>l.length - k) 0 kq zq ⟨⟨kq,kq,kq,kq,trivial⟩,by simp [aQ,aa.bel],by simp,kq,by simp [af.belO]⟩ ?_
 rintro k ⟨hk,ha⟩
 apply qW 1 [(0,.own 2 0 l.length),(1,.int .i64 (n)),(7,nI l.length),(8,nI k),(9,.bool (decide (((k:Nat):Int)<((l.length:Nat):Int))))] [u.bx,.box [.own 2 0 l.length],.arr 1 (l.map iE) 0]
 apply ao
 by_cases hb1:((k:Nat):Int)<((l.length:Nat):Int)
 apply qt (decide_eq_true hb1)
 apply qK
 apply qz [(0,.own 2 0 l.length),(1,.int .i64 (n)),(7,nI l.length),(8,nI k)]
 apply ao
 apply qB 1
 apply qU 2 [(0,.own 2 0 l.length),(1,.int .i64 (n)),(5,nI k),(7,nI l.length),(8,nI k)]
 apply qV 3
 refine qy (dO (k:=.i64) (i:=((k:Nat):Int)) (o:=2) (off:=0) (len:=l.length) (sz:=1) (fr:=0) (es:=(l.map iE)) kq cU ty3 kq rfl zq oq oq) ?_ ?_ ?_
 refine qy (fH (t:=3) (o:=2) (idx:=(0+k)) (off:=0) (k:=((l.map iE).length)) (sz:=1) (fr:=0) (es:=(l.map iE)) (x:=iE (l.getD (0+k) 0)) (v:=.int .i64 ((l.getD (0+k) 0))) kq kq zq (fS _ _ _ _ oq) kq) ?_ ?_ ?_
 apply qR 1 [(0,.own 2 0 l.length),(1,.int .i64 (n)),(5,nI k),(7,nI l.length),(8,nI k),(16,.bool ((n)==((l.getD (0+k) 0))))] [u.bx,.box [.own 2 0 l.length],.arr 1 (l.map iE) 0]
 by_cases hb2:(n)=((l.getD (0+k) 0))
 apply qt (beq_iff_eq.2 hb2)
 apply qU 2 [(4,nI k)]
 refine a8 kq ?_
 apply iR
 apply aR
 apply aR
 apply iR
 apply aR
 refine aM (l:=[.int .i64 ((k:Nat):Int)]) iq kq H3 im im ?_ ?_
 refine Eq.trans (b:=[u.bx,.box [.own 2 0 l.length],.arr 1 (l.map iE) 0]) kq ?_
 · rfl
 · simp [af.belO,Ty.v]
 iterate 2 kernel_rfl
 apply qf (beq_eq_false_iff_ne.2 hb2)
 apply qk
 apply aj
 apply ab
 apply qz [(0,.own 2 0 l.length),(1,.int .i64 (n)),(7,nI l.length),(8,nI k)]
 apply qo
 refine qy (aN (a:=((k:Nat):Int)) (b:=1) kq oq oq) ?_ ?_ ?_
 apply qr 1
 apply qe
 refine ab ⟨k+1,?_,?_,⟨⟨kq,kq,kq,kq,trivial⟩,by simp [aQ,aa.bel],by simp,kq,by simp [af.belO]⟩⟩
 · omega
 · refine ⟨by omega,fun i hi=>?_⟩
   rcases Nat.lt_succ_iff_lt_or_eq.1 hi with h|h
   · exact ha i h
   · subst h;assumption
 iterate 21 kernel_rfl
 apply qf (decide_eq_false hb1)
 refine bn 0 kq kq ?_
 apply ae
 apply ae
 apply ay
 apply ab
 apply qz []
 apply qU 1 [(4,.int .i64 (-1))]
 refine a8 kq ?_
 refine aM (l:=[.int .i64 (-1)]) iq kq H3 im im ?_ ?_
 refine Eq.trans (b:=[u.bx,.box [.own 2 0 l.length],.arr 1 (l.map iE) 0]) kq ?_
 · rfl
 · simp [af.belO,Ty.v]
 iterate 14 kernel_rfl
theorem ua (l:List Int) (n:Int) (u:Ty) (hn:l.length<1000000000):ar cx 88 [.own 2 0 l.length,.int .i64 (n)] [u.bx,.box [.own 2 0 l.length],.arr 1 (l.map iE) 0] (fun v h=>v=(.bool (l.contains n))∧h=[u.bx,.box [.own 2 0 l.length],.arr 1 (l.map iE) 0]):=by
 refine am (cx:=cx) 9 3 [(ResultVar.tmp 4)] Tryz.func88 rfl rfl rfl rfl rfl zq ?_
 show wpA cx 9 3 (at_ c88 []) _ _ _
 apply qZ [(0,.own 2 0 l.length),(1,.int .i64 (n))] [u.bx,.box [.own 2 0 l.length],.arr 1 (l.map iE) 0]
 apply qU 1 [(0,.own 2 0 l.length),(1,.int .i64 (n))]
 apply qV 2
 refine dD (args:=[.own 2 0 l.length,.int .i64 (n)]) (v:=.int .i64 (oZ l n)) (h':=[u.bx,.box [.own 2 0 l.length],.arr 1 (l.map iE) 0]) [u.bx,.box [.own 2 0 l.length],.arr 1 (l.map iE) 0] kq kq kq kq kq (wJ l n u hn) ?_
 apply qR 2 [(4,.bool (decide ((oZ l n) ≥ 0)))] [u.bx,.box [.own 2 0 l.length],.arr 1 (l.map iE) 0]
 refine a8 kq ?_
 refine aM (l:=[.bool (decide ((oZ l n) ≥ 0))]) iq kq (by simp only [aK,aa.frz];congr 1;exact lA l n) im im ?_ ?_
 refine Eq.trans (b:=[u.bx,.box [.own 2 0 l.length],.arr 1 (l.map iE) 0]) kq ?_
 · rfl
 · simp [af.belO,Ty.v]
 iterate 4 kernel_rfl
noncomputable def JD:Code:=aB Tryz.f112
theorem EP {p:Prop} (h:p:=by simp [af.belO,hpN,Ty.v,-List.map_append]):p:=h
theorem Iq {p:Prop} (h:p:=by simp only [List.length_append,List.length_map,List.length_cons,List.length_nil];omega):p:=h
theorem sS (t u:Ty) (l:List Int) (hl:l.length<900000000):ar cx 112 [Ty.v t,.ptr 1 0] (hpN u l) (fun v h=>v=(.tup [])∧h=hpN u (cf l t)):=by
 refine am (cx:=cx) 17 3 [] Tryz.func112 rfl rfl rfl rfl rfl zq ?_
 show wpA cx 17 3 (at_ JD []) _ _ _
 apply qZ [(0,Ty.v t),(1,.ptr 1 0)] [u.bx,.box [.own 2 0 l.length],.arr 1 (l.map iE) 0]
 apply qW 1 [(1,.ptr 1 0),(2,.ptr 3 0)] [u.bx,.box [.own 2 0 l.length],.arr 1 (l.map iE) 0,t.bx]
 apply qV 1
 refine dD (args:=[aG t]) (v:=.bool (isV (t.kind) (t.n))) (h':=[u.bx,.box [.own 2 0 l.length],.arr 1 (l.map iE) 0,t.bx]) [u.bx,.box [.own 2 0 l.length],.arr 1 (l.map iE) 0,t.bx] kq kq kq kq kq (j7 (pM (t.kind) (t.n) t.name) rfl rfl rfl) ?_
 apply qr 1
 by_cases hb1:(isV (t.kind) (t.n))=true
 apply qm [4,5] (hb1)
 apply qr 3
 refine aT (args:=[.own 2 0 l.length,.int .i64 (t.n)]) (hs:=[u.bx,.box [.own 2 0 l.length],.arr 1 (l.map iE) 0]) (hs':=[u.bx,.box [.own 2 0 l.length],.arr 1 (l.map iE) 0]) (aO:=[t.bx]) kq kq kq kq kq (ua l t.n u oq) EP EP rfl EP EP kq ?_
 apply qR 2 [(1,.ptr 1 0),(2,.ptr 3 0),(11,.bool (!(l.contains (t.n))))] [u.bx,.box [.own 2 0 l.length],.arr 1 (l.map iE) 0,t.bx]
 by_cases hb2:(l.contains (t.n))=true
 refine qf (x:=(!(l.contains (t.n)))) (congrArg not (hb2)) ?_ ?_
 apply qk
 refine aM (l:=[]) jq kq im im im ?_ ?_
 refine Eq.trans (b:=[u.bx,.box [.own 2 0 l.length],.arr 1 (l.map iE) 0]) kq ?_
 rotate_left
 · simp [af.belO,hpN,Ty.v,-List.map_append]
 iterate 2 kernel_rfl
 refine qt (x:=(!(l.contains (t.n)))) (congrArg not (Bool.eq_false_iff.2 hb2)) ?_ ?_
 apply qo
 apply qr 4
 refine qY (bc (o:=2) (len:=l.length) (l:=l) (xs:=[(t.n)]) (enc:=iE) (sz:=1) (fr:=0) (x:=(.full [.int .i64 (t.n)])) kq cU ty3 cU rfl kq rfl rfl kq ⟨by decide,by kernel_rfl⟩ (fun _=>rfl) Iq Iq) ?_ ?_ ?_
 apply qr 1
 apply qe
 refine aM (l:=[]) jq kq im im im ?_ ?_
 refine Eq.trans (b:=[u.bx,.box [.own 2 0 (l++[(t.n)]).length],.arr 1 ((l++[(t.n)]).map iE) 0]) kq ?_
 rotate_left
 · simp [af.belO,hpN,Ty.v,-List.map_append]
 iterate 10 kernel_rfl
 apply qm [4,5] (Bool.eq_false_iff.2 hb1)
 apply qR 6 [(1,.ptr 1 0),(2,.ptr 3 0),(11,.bool false)] [u.bx,.box [.own 2 0 l.length],.arr 1 (l.map iE) 0,t.bx]
 refine d5 kq kq ?_
 apply qk
 refine aM (l:=[]) jq kq im im im ?_ ?_
 refine Eq.trans (b:=[u.bx,.box [.own 2 0 l.length],.arr 1 (l.map iE) 0]) kq ?_
 rotate_left
 · simp [af.belO,hpN,Ty.v,-List.map_append]
 iterate 7 kernel_rfl
 all_goals
  unfold cf cP
  first|(rw [if_pos aq,if_neg aq];rfl)|(rw [if_pos aq,if_pos aq];rfl)|(rw [if_neg aq];rfl)
theorem nE:∀ (ks:List Ty) (k:Nat),k<ks.length→Ty.szL (ks.take k)+(ks.getD k Ty.zero).sz≤Ty.szL ks
 | [],k,h=>by simp at h
 | x::ks,0,_=>by simp only [List.take_zero,Ty.szL,List.getD_cons_zero];omega
 | x::ks,k+1,h=>by have:=nE ks k (by simpa using h);simp only [List.take_succ_cons,Ty.szL,List.getD_cons_succ];omega
theorem k8 {p:Prop} (h:p:=by simp [af.belO,hpN,Ty.v]):p:=h
theorem IM {p:Prop} (h:p:=by exact congrArg (fun q=>hpN u q++[t.bx]) (zh _ t.kids k oq).symm):p:=h
theorem vI (t u:Ty) (l:List Int) (hs:t.sz<100000000) (hl:l.length+t.sz<800000000):ar cx 54 [Ty.v t,.fn (.func 112) [] [.ptr 1 0]] (hpN u l) (fun v h=>v=(.tup [])∧h=hpN u (aw l t)):=by
 induction hN:t.sz using Nat.strongRecOn generalizing t u l with|_ N ih =>
 have ihV:∀ (t' u:Ty) (l:List Int),t'.sz<t.sz→l.length+t'.sz<800000000→ar cx 54 [t'.v,.fn (.func 112) [] [.ptr 1 0]] (hpN u l) (fun v h=>v=.tup []∧h=hpN u (aw l t')):=fun t' u l h1 h2=>ih _ (by rw [← hN];exact h1) t' u l oq h2 rfl
 have hz2:=cF t
 have hzz:=gT t
 have hsl:=B6 l t
 refine am (cx:=cx) 29 3 [] Tryz.func54 rfl rfl rfl rfl rfl zq ?_
 show wpA cx 29 3 (at_ c54 []) _ _ _
 apply qZ [(0,Ty.v t),(1,.fn (.func 112) [] [.ptr 1 0])] [u.bx,.box [.own 2 0 l.length],.arr 1 (l.map iE) 0]
 apply qW 1 [(1,.fn (.func 112) [] [.ptr 1 0]),(2,.ptr 3 0)] [u.bx,.box [.own 2 0 l.length],.arr 1 (l.map iE) 0,t.bx]
 apply ao
 apply qU 3 [(1,.fn (.func 112) [] [.ptr 1 0]),(2,.ptr 3 0),(8,.bool ((t.kind) != 5))]
 by_cases hb1:(t.kind)=5
 refine qf (x:=((t.kind) != 5)) (bne_eq_false_iff_eq.2 hb1) ?_ ?_
 apply qK
 apply qz [(1,.fn (.func 112) [] [.ptr 1 0]),(2,.ptr 3 0)]
 apply ao
 apply qV 2
 refine qy (au (l:=t.kids) (enc:=Ty.enc) kq ba) ?_ ?_ ?_
 apply qR 1 [(1,.fn (.func 112) [] [.ptr 1 0]),(2,.ptr 3 0),(13,.imm (t.kids.map Ty.enc)),(14,nI t.kids.length),(15,.int .i64 0)] [u.bx,.box [.own 2 0 l.length],.arr 1 (l.map iE) 0,t.bx]
 apply qB 0
 refine bB (σ:=Nat) (fun k=>[(1,.fn (.func 112) [] [.ptr 1 0]),(2,.ptr 3 0),(13,.imm (t.kids.map Ty.enc)),(14,.int .i64 ((t.kids.length:Nat):Int)),(15,.int .i64 ((k:Nat):Int))]) (fun k=>[u.bx,.box [.own 2 0 (bO l (t.kids.take k)).length],.arr 1 ((bO l (t.kids.take k)).map iE) 0,t.bx]) (fun k=>k≤t.kids.length) (fun k=>t.kids.length - k) 0 kq (by exact Nat.zero_le _) ⟨⟨kq,kq,kq,kq,kq,trivial⟩,by simp [aQ,aa.bel],by simp,kq,by simp [af.belO]⟩ ?_
 rintro k hk
 have hvl:=s8 l (t.kids.take k)
 have hst:=iv t.kids k
 have hkd:=fun h=>nE t.kids k h
 apply qW 1 [(1,.fn (.func 112) [] [.ptr 1 0]),(2,.ptr 3 0),(13,.imm (t.kids.map Ty.enc)),(14,nI t.kids.length),(15,nI k),(16,.bool (decide (((k:Nat):Int)<((t.kids.length:Nat):Int))))] [u.bx,.box [.own 2 0 (bO l (t.kids.take k)).length],.arr 1 ((bO l (t.kids.take k)).map iE) 0,t.bx]
 apply ao
 by_cases hb2:((k:Nat):Int)<((t.kids.length:Nat):Int)
 apply qt (decide_eq_true hb2)
 apply qK
 apply qz [(1,.fn (.func 112) [] [.ptr 1 0]),(2,.ptr 3 0),(13,.imm (t.kids.map Ty.enc)),(14,nI t.kids.length),(15,nI k)]
 apply ao
 apply qB 1
 apply qO
 refine qy ((aA (k:=.i64) (l:=t.kids) (enc:=Ty.enc) (i:=((k:Nat):Int)) Ty.zero kq ba bV bk oq oq).trans (congrArg (fun cs=>some (aa.pimm cs 0,_)) (aU (t.kids.getD k Ty.zero)))) ?_ ?_ ?_
 apply qR 3 [(1,.fn (.func 112) [] [.ptr 1 0]),(2,.ptr 3 0),(5,.ptr 4 0),(13,.imm (t.kids.map Ty.enc)),(14,nI t.kids.length),(15,nI k)] [u.bx,.box [.own 2 0 (bO l (t.kids.take k)).length],.arr 1 ((bO l (t.kids.take k)).map iE) 0,t.bx,(t.kids.getD k Ty.zero).bx]
 apply qo
 apply qr 2
 refine aT (args:=[aG (t.kids.getD k Ty.zero),.fn (.func 112) [] [.ptr 1 0]]) (hs:=[u.bx,.box [.own 2 0 (bO l (t.kids.take k)).length],.arr 1 ((bO l (t.kids.take k)).map iE) 0]) (hs':=[u.bx,.box [.own 2 0 (aw (bO l (t.kids.take k)) (t.kids.getD k Ty.zero)).length],.arr 1 ((aw (bO l (t.kids.take k)) (t.kids.getD k Ty.zero)).map iE) 0]) (aO:=[t.bx,(t.kids.getD k Ty.zero).bx]) kq kq kq kq kq (ihV (t.kids.getD k Ty.zero) u (bO l (t.kids.take k)) oq oq) k8 k8 rfl k8 k8 kq ?_
 apply qe
 apply aj
 apply ab
 apply qZ [(1,.fn (.func 112) [] [.ptr 1 0]),(2,.ptr 3 0),(13,.imm (t.kids.map Ty.enc)),(14,nI t.kids.length),(15,nI k)] [u.bx,.box [.own 2 0 (aw (bO l (t.kids.take k)) (t.kids.getD k Ty.zero)).length],.arr 1 ((aw (bO l (t.kids.take k)) (t.kids.getD k Ty.zero)).map iE) 0,t.bx,(t.kids.getD k Ty.zero).bx]
 apply qo
 refine qy (aN (a:=((k:Nat):Int)) (b:=1) kq oq oq) ?_ ?_ ?_
 apply qr 1
 apply qe
 refine ab ⟨k+1,?_,?_,⟨⟨kq,kq,kq,kq,kq,trivial⟩,by simp [aQ,aa.bel],by simp,(Eq.trans (b:=[u.bx,.box [.own 2 0 (aw (bO l (t.kids.take k)) (t.kids.getD k Ty.zero)).length],.arr 1 ((aw (bO l (t.kids.take k)) (t.kids.getD k Ty.zero)).map iE) 0,t.bx]) kq IM),by simp [af.belO]⟩⟩
 · omega
 · omega
 iterate 19 kernel_rfl
 apply qf (decide_eq_false hb2)
 refine bn 0 kq kq ?_
 apply ae
 apply ae
 apply ay
 apply ab
 apply qz [(1,.fn (.func 112) [] [.ptr 1 0]),(2,.ptr 3 0)]
 apply qU 3 [(1,.fn (.func 112) [] [.ptr 1 0]),(2,.ptr 3 0),(25,.bool ((t.kind)==5))]
 apply qt (beq_iff_eq.2 hb1)
 apply qo
 apply qr 2
 refine aT (args:=[aG t,.ptr 1 0]) (hs:=[u.bx,.box [.own 2 0 (bO l (t.kids.take k)).length],.arr 1 ((bO l (t.kids.take k)).map iE) 0]) (hs':=[u.bx,.box [.own 2 0 (cf (bO l (t.kids.take k)) t).length],.arr 1 ((cf (bO l (t.kids.take k)) t).map iE) 0]) (aO:=[t.bx]) kq kq kq kq kq (sS t u (bO l (t.kids.take k)) oq) k8 k8 rfl k8 k8 kq ?_
 apply qe
 refine aM (l:=[]) jq kq im im im ?_ ?_
 refine Eq.trans (b:=[u.bx,.box [.own 2 0 (cf (bO l (t.kids.take k)) t).length],.arr 1 ((cf (bO l (t.kids.take k)) t).map iE) 0]) kq ?_
 rotate_left
 · simp [af.belO,hpN,Ty.v]
 iterate 19 kernel_rfl
 refine qt (x:=((t.kind) != 5)) (bne_iff_ne.2 hb1) ?_ ?_
 apply qo
 apply qr 2
 refine aT (args:=[aG t,.ptr 1 0]) (hs:=[u.bx,.box [.own 2 0 l.length],.arr 1 (l.map iE) 0]) (hs':=[u.bx,.box [.own 2 0 (cf l t).length],.arr 1 ((cf l t).map iE) 0]) (aO:=[t.bx]) kq kq kq kq kq (sS t u l oq) k8 k8 rfl k8 k8 kq ?_
 apply qN [(1,.fn (.func 112) [] [.ptr 1 0]),(2,.ptr 3 0)] [u.bx,.box [.own 2 0 (cf l t).length],.arr 1 ((cf l t).map iE) 0,t.bx]
 apply ao
 apply qV 2
 refine qy (au (l:=t.kids) (enc:=Ty.enc) kq ba) ?_ ?_ ?_
 apply qR 1 [(1,.fn (.func 112) [] [.ptr 1 0]),(2,.ptr 3 0),(13,.imm (t.kids.map Ty.enc)),(14,nI t.kids.length),(15,.int .i64 0)] [u.bx,.box [.own 2 0 (cf l t).length],.arr 1 ((cf l t).map iE) 0,t.bx]
 apply qB 0
 refine bB (σ:=Nat) (fun k=>[(1,.fn (.func 112) [] [.ptr 1 0]),(2,.ptr 3 0),(13,.imm (t.kids.map Ty.enc)),(14,.int .i64 ((t.kids.length:Nat):Int)),(15,.int .i64 ((k:Nat):Int))]) (fun k=>[u.bx,.box [.own 2 0 (bO (cf l t) (t.kids.take k)).length],.arr 1 ((bO (cf l t) (t.kids.take k)).map iE) 0,t.bx]) (fun k=>k≤t.kids.length) (fun k=>t.kids.length - k) 0 kq (by exact Nat.zero_le _) ⟨⟨kq,kq,kq,kq,kq,trivial⟩,by simp [aQ,aa.bel],by simp,kq,by simp [af.belO]⟩ ?_
 rintro k hk
 have hvl:=s8 (cf l t) (t.kids.take k)
 have hst:=iv t.kids k
 have hkd:=fun h=>nE t.kids k h
 apply qW 1 [(1,.fn (.func 112) [] [.ptr 1 0]),(2,.ptr 3 0),(13,.imm (t.kids.map Ty.enc)),(14,nI t.kids.length),(15,nI k),(16,.bool (decide (((k:Nat):Int)<((t.kids.length:Nat):Int))))] [u.bx,.box [.own 2 0 (bO (cf l t) (t.kids.take k)).length],.arr 1 ((bO (cf l t) (t.kids.take k)).map iE) 0,t.bx]
 apply ao
 by_cases hb4:((k:Nat):Int)<((t.kids.length:Nat):Int)
 apply qt (decide_eq_true hb4)
 apply qK
 apply qz [(1,.fn (.func 112) [] [.ptr 1 0]),(2,.ptr 3 0),(13,.imm (t.kids.map Ty.enc)),(14,nI t.kids.length),(15,nI k)]
 apply ao
 apply qB 1
 apply qO
 refine qy ((aA (k:=.i64) (l:=t.kids) (enc:=Ty.enc) (i:=((k:Nat):Int)) Ty.zero kq ba bV bk oq oq).trans (congrArg (fun cs=>some (aa.pimm cs 0,_)) (aU (t.kids.getD k Ty.zero)))) ?_ ?_ ?_
 apply qR 3 [(1,.fn (.func 112) [] [.ptr 1 0]),(2,.ptr 3 0),(5,.ptr 4 0),(13,.imm (t.kids.map Ty.enc)),(14,nI t.kids.length),(15,nI k)] [u.bx,.box [.own 2 0 (bO (cf l t) (t.kids.take k)).length],.arr 1 ((bO (cf l t) (t.kids.take k)).map iE) 0,t.bx,(t.kids.getD k Ty.zero).bx]
 apply qo
 apply qr 2
 refine aT (args:=[aG (t.kids.getD k Ty.zero),.fn (.func 112) [] [.ptr 1 0]]) (hs:=[u.bx,.box [.own 2 0 (bO (cf l t) (t.kids.take k)).length],.arr 1 ((bO (cf l t) (t.kids.take k)).map iE) 0]) (hs':=[u.bx,.box [.own 2 0 (aw (bO (cf l t) (t.kids.take k)) (t.kids.getD k Ty.zero)).length],.arr 1 ((aw (bO (cf l t) (t.kids.take k)) (t.kids.getD k Ty.zero)).map iE) 0]) (aO:=[t.bx,(t.kids.getD k Ty.zero).bx]) kq kq kq kq kq (ihV (t.kids.getD k Ty.zero) u (bO (cf l t) (t.kids.take k)) oq oq) k8 k8 rfl k8 k8 kq ?_
 apply qe
 apply aj
 apply ab
 apply qZ [(1,.fn (.func 112) [] [.ptr 1 0]),(2,.ptr 3 0),(13,.imm (t.kids.map Ty.enc)),(14,nI t.kids.length),(15,nI k)] [u.bx,.box [.own 2 0 (aw (bO (cf l t) (t.kids.take k)) (t.kids.getD k Ty.zero)).length],.arr 1 ((aw (bO (cf l t) (t.kids.take k)) (t.kids.getD k Ty.zero)).map iE) 0,t.bx,(t.kids.getD k Ty.zero).bx]
 apply qo
 refine qy (aN (a:=((k:Nat):Int)) (b:=1) kq oq oq) ?_ ?_ ?_
 apply qr 1
 apply qe
 refine ab ⟨k+1,?_,?_,⟨⟨kq,kq,kq,kq,kq,trivial⟩,by simp [aQ,aa.bel],by simp,(Eq.trans (b:=[u.bx,.box [.own 2 0 (aw (bO (cf l t) (t.kids.take k)) (t.kids.getD k Ty.zero)).length],.arr 1 ((aw (bO (cf l t) (t.kids.take k)) (t.kids.getD k Ty.zero)).map iE) 0,t.bx]) kq IM),by simp [af.belO]⟩⟩
 · omega
 · omega
 iterate 19 kernel_rfl
 apply qf (decide_eq_false hb4)
 refine bn 0 kq kq ?_
 apply ae
 apply ae
 apply ay
 apply ab
 apply qz [(1,.fn (.func 112) [] [.ptr 1 0]),(2,.ptr 3 0)]
 apply qU 3 [(1,.fn (.func 112) [] [.ptr 1 0]),(2,.ptr 3 0),(25,.bool ((t.kind)==5))]
 apply qf (beq_eq_false_iff_ne.2 hb1)
 apply qk
 refine aM (l:=[]) jq kq im im im ?_ ?_
 refine Eq.trans (b:=[u.bx,.box [.own 2 0 (bO (cf l t) (t.kids.take k)).length],.arr 1 ((bO (cf l t) (t.kids.take k)).map iE) 0]) kq ?_
 rotate_left
 · simp [af.belO,hpN,Ty.v]
 iterate 22 kernel_rfl
 all_goals
  refine congrArg (hpN u) ?_
  first|rw [C5 l t aq,List.take_of_length_le oq]|rw [DP l t aq,List.take_of_length_le oq]
noncomputable def c76:Code:=aB Tryz.f76
theorem xf {p:Prop} (h:p:=by simp [-List.map_append,-List.map_take,-List.map_drop,-List.append_assoc,aa.refs,dE,af.refs,af.isIter,oO,Abs.renT,eY,m8,af.ren,aa.ren,b4,List.idxOf_cons]):p:=h
theorem Ih {p:Prop} (h:p:=by simp [af.belO,-List.map_append,-List.map_take,-List.map_drop,-List.append_assoc]):p:=h
theorem HV {p:Prop} (h:p:=by simp [aK,-List.map_append,-List.map_take,-List.map_drop,-List.append_assoc]):p:=h
theorem kg (t:Ty) (hs:t.sz<100000000):ar cx 76 [Ty.v t] [] (fun v h=>v=.own 0 0 (aw [] t).length∧h=[.arr 1 ((aw [] t).map iE) 0]):=by
 refine dN (cx:=cx) 8 0 [(ResultVar.tmp 2)] Tryz.func76 rfl rfl rfl rfl rfl zq ?_
 show wpA cx 8 0 (at_ c76 []) _ _ _
 apply qZ [(0,Ty.v t)] []
 apply qW 2 [(1,.ptr 0 0)] [t.bx]
 apply qW 1 [(1,.ptr 0 0),(3,.ptr 1 0)] [t.bx,.box [.full []]]
 refine mh 1 0 1 (cs:=[.full []]) [.own 2 0 0] dq kq kq kq ?_
 apply qZ [(1,.ptr 0 0),(3,.ptr 1 0)] [t.bx,.box [.own 2 0 0],.arr 1 (([]:List (Int)).map iE) 0]
 apply qV 2
 refine dD (args:=[aG t,.fn (.func 112) [] [.ptr 1 0]]) (v:=.tup []) (h':=[t.bx,.box [.own 2 0 (aw [] t).length],.arr 1 ((aw [] t).map iE) 0]) [t.bx,.box [.own 2 0 0],.arr 1 (([]:List (Int)).map iE) 0] kq kq kq kq kq (vI t t [] hs (by simp;omega)) ?_
 apply qN [(3,.ptr 1 0)] [t.bx,.box [.own 2 0 (aw [] t).length],.arr 1 ((aw [] t).map iE) 0]
 apply qU 2 [(2,.own 2 0 (aw [] t).length)]
 refine ya [2] [(2,.own 0 0 (aw [] t).length)] [.arr 1 ((aw [] t).map iE) 0] dq xf xf xf xf ?_
 apply qZ [(2,.own 0 0 (aw [] t).length)] [.arr 1 ((aw [] t).map iE) 0]
 refine a8 kq ?_
 refine ee (l:=[.own 0 0 (aw [] t).length]) 1 [.arr 1 ((aw [] t).map iE) 0] iq kq (Nat.zero_le _) kq HV Ih ?_
 · exact ⟨rfl,rfl⟩
 iterate 8 kernel_rfl
theorem t6 (t:Ty) (hs:t.sz<100000000):aC cx 76 [t.v] (.imm ((aw [] t).map iE)):=g0 (kg t hs) (by rintro _ _ ⟨rfl,rfl⟩;simp [aa.frz]) zq
theorem zl (l:List (List UInt8)) (hl:l.length<1000000000):ar cx 84 [.imm (l.map .str)] [] (fun v h=>v=.own 0 0 l.length∧h=[.arr 1 (l.map .str) 0]):=by
 have:=Ah (l.map .str) [] (sx (fun _=>rfl) l) (by simp [jt];omega) rfl zq
 simpa using this
theorem Hy (l:List Ty) (hl:l.length<1000000000):ar cx 109 [.imm (l.map Ty.enc)] [] (fun v h=>v=.own 0 0 l.length∧h=[.arr 5 (l.map Ty.enc) 0]):=by
 have:=wm (l.map Ty.enc) [] (sx (fun q=>by rw [Ty.enc_v];rfl) l) (by simp [jt];omega) rfl zq
 simpa using this
theorem DC (l:List Ty) (k:Nat):l.set k (l.getD k Ty.zero)=l:=by
 by_cases h:k<l.length
 · rw [List.getD_eq_getElem?_getD,List.getElem?_eq_getElem h];exact List.set_getElem_self h
 · exact List.set_eq_of_length_le oq
theorem xv {t:Ty} (h:ar cx 67 [t.v] [] (fun v h=>v=uF t∧h=uf t)):aC cx 67 [t.v] t.v:=g0 h (by rintro _ _ ⟨rfl,rfl⟩;exact vK t) zq
noncomputable def c67:Code:=aB Tryz.f67
theorem rT {p:Prop} (h:p:=by simp [aa.frz,bf,aa.ren,b4,dZ,af.ren,bg,cd,aV,aa.owns]):p:=h
theorem nh (t:Ty) (hs:t.sz<100000000):ar cx 67 [Ty.v t] [] (fun v h=>v=uF t∧h=uf t):=by
 induction hN:t.sz using Nat.strongRecOn generalizing t with|_ N ih =>
 have ihC:∀ x:Ty,x.sz<t.sz→aC cx 67 [x.v] x.v:=fun x h1=>xv (ih _ (by rw [← hN];exact h1) x (Nat.lt_trans h1 hs) rfl)
 have hz1:=bP t
 have hz2:=cF t
 refine dN (cx:=cx) 30 0 [(ResultVar.cell 2 25)] Tryz.func67 rfl rfl rfl rfl rfl zq ?_
 show wpA cx 30 0 (at_ c67 []) _ _ _
 apply qZ [(0,Ty.v t)] []
 apply qW 2 [(1,.ptr 0 0),(2,.ptr 1 0)] [t.bx,.box zC]
 apply ao
 refine cR cxM kq aJ (bq ?_)
 apply qu 2
 refine uk (args:=[.imm (t.names.map aa.str)]) (args':=[.imm (t.names.map aa.str)]) (V':=.own 2 0 t.names.length) (F:=[t.bx,.box zC]) (G':=[.arr 1 (t.names.map aa.str) 0]) (L:=[2]) kq kq kq kq kq (zl t.names oq) [t.bx,.box zC] kq rT rT zq rT rT rT (by simp [l8,aV,aa.owns]) ?_
 apply qu 2
 refine uk (args:=[.imm (t.kids.map Ty.enc)]) (args':=[.imm (t.kids.map Ty.enc)]) (V':=.own 3 0 t.kids.length) (F:=[t.bx,.box zC,.arr 1 (t.names.map aa.str) 0]) (G':=[.arr 5 (t.kids.map Ty.enc) 0]) (L:=[3]) kq kq kq kq kq (Hy t.kids oq) [t.bx,.box zC,.arr 1 (t.names.map aa.str) 0] kq rT rT zq rT rT rT (by simp [l8,aV,aa.owns]) ?_
 apply qu 4
 refine cq kq ⟨kq,?_⟩
 apply ab
 apply qZ [(1,.ptr 0 0),(2,.ptr 1 0)] [.box [.int .i64 (t.kind),.str t.name,.int .i64 (t.n),.own 2 0 t.names.length,.own 3 0 t.kids.length],.box zC,.arr 1 (t.names.map aa.str) 0,.arr 5 (t.kids.map Ty.enc) 0]
 refine n8 0 3 2 (cs:=[.int .i64 (t.kind),.str t.name,.int .i64 (t.n),.own 2 0 t.names.length,.own 3 0 t.kids.length]) (es:=(t.names.map aa.str)) (off:=0) (len:=t.names.length) (sz:=1) (fr:=0) [.int .i64 (t.kind),.str t.name,.int .i64 (t.n),.imm (t.names.map aa.str),.own 3 0 t.kids.length] (t.names.map aa.str) dq kq kq kq zq kq kq ?_
 apply qZ [(1,.ptr 0 0),(2,.ptr 1 0)] [bK t (.own 3 0 t.kids.length),.box zC,.arr 1 (t.names.map aa.str) (t.names.map aa.str).length,.arr 5 (t.kids.map Ty.enc) 0]
 apply ao
 apply qV 2
 refine qy (d8 (o:=3) (off:=0) (len:=t.kids.length) (sz:=5) (es:=(t.kids.map Ty.enc)) (fr:=0) kq ba kq zq) ?_ ?_ ?_
 apply qR 1 [(1,.ptr 0 0),(2,.ptr 1 0),(14,nI t.kids.length),(15,.int .i64 0)] [bK t (.own 3 0 t.kids.length),.box zC,.arr 1 (t.names.map aa.str) (t.names.map aa.str).length,.arr 5 (t.kids.map Ty.enc) 0]
 apply qB 0
 refine bB (σ:=Nat) (fun k=>[(1,.ptr 0 0),(2,.ptr 1 0),(14,.int .i64 ((t.kids.length:Nat):Int)),(15,.int .i64 ((k:Nat):Int))]) (fun k=>[bK t (.own 3 0 t.kids.length),.box zC,.arr 1 (t.names.map aa.str) (t.names.map aa.str).length,.arr 5 (t.kids.map Ty.enc) 0]) (fun k=>k≤t.kids.length) (fun k=>t.kids.length - k) 0 kq (by exact Nat.zero_le _) ⟨⟨kq,kq,kq,kq,trivial⟩,by simp [aQ,aa.bel],by simp,kq,by simp [af.belO]⟩ ?_
 rintro k hk
 apply qW 1 [(1,.ptr 0 0),(2,.ptr 1 0),(14,nI t.kids.length),(15,nI k),(16,.bool (decide (((k:Nat):Int)<((t.kids.length:Nat):Int))))] [bK t (.own 3 0 t.kids.length),.box zC,.arr 1 (t.names.map aa.str) (t.names.map aa.str).length,.arr 5 (t.kids.map Ty.enc) 0]
 apply ao
 by_cases hb1:((k:Nat):Int)<((t.kids.length:Nat):Int)
 apply qt (decide_eq_true hb1)
 apply qK
 apply qz [(1,.ptr 0 0),(2,.ptr 1 0),(14,nI t.kids.length),(15,nI k)]
 apply ao
 apply qB 1
 apply qU 2 [(1,.ptr 0 0),(2,.ptr 1 0),(3,nI k),(14,nI t.kids.length),(15,nI k)]
 refine cR cxM kq (kl aJ) (bq ?_)
 apply qu 6
 refine qd (dO (k:=.i64) (i:=((k:Nat):Int)) (o:=3) (off:=0) (len:=t.kids.length) (sz:=5) (fr:=0) (es:=(t.kids.map Ty.enc)) kq ba bV kq rfl zq oq oq) ?_ ?_ ?_ ?_
 refine qd (fH (t:=25) (o:=3) (idx:=(0+k)) (off:=0) (k:=((t.kids.map Ty.enc).length)) (sz:=5) (fr:=0) (es:=(t.kids.map Ty.enc)) (x:=Ty.enc (t.kids.getD (0+k) Ty.zero)) (v:=aG (t.kids.getD (0+k) Ty.zero)) kq kq zq (fS _ _ _ _ oq) (by rw [aU];exact kq)) ?_ ?_ ?_ ?_
 refine d4 (args:=[aG (t.kids.getD (0+k) Ty.zero)]) kq kq kq kq kq (ihC (t.kids.getD (0+k) Ty.zero) (cu t _ oq)) (by intro _;simp [Ty.v,bo,Occ.v]) (by simp [Ty.v]) (by simp [Ty.v,bh]) ?_
 refine qd (dO (k:=.i64) (i:=((k:Nat):Int)) (o:=3) (off:=0) (len:=t.kids.length) (sz:=5) (fr:=0) (es:=(t.kids.map Ty.enc)) kq ba bV kq rfl zq oq oq) ?_ ?_ ?_ ?_
 refine qD (pe (o:=3) (k:=((t.kids.map Ty.enc).length)) (x:=Ty.v (t.kids.getD (0+k) Ty.zero)) (enc:=Ty.enc) (l:=t.kids) (X:=(t.kids.getD (0+k) Ty.zero)) (d:=Ty.zero) (idx:=(0+k)) (sz:=5) kq (Ty.enc_v (t.kids.getD (0+k) Ty.zero)).symm kq zq oq bV t8 py) ?_ ?_ ?_ ?_
 refine cq kq ⟨kq,?_⟩
 apply aj
 apply ab
 apply qZ [(1,.ptr 0 0),(2,.ptr 1 0),(14,nI t.kids.length),(15,nI k)] [bK t (.own 3 0 t.kids.length),.box zC,.arr 1 (t.names.map aa.str) (t.names.map aa.str).length,.arr 5 ((t.kids.set (0+k) (t.kids.getD (0+k) Ty.zero)).map Ty.enc) 0]
 apply qo
 refine qy (aN (a:=((k:Nat):Int)) (b:=1) kq oq oq) ?_ ?_ ?_
 apply qr 1
 apply qe
 refine ab ⟨k+1,?_,?_,⟨⟨kq,kq,kq,kq,trivial⟩,by simp [aQ,aa.bel],by simp,(Eq.trans (b:=[bK t (.own 3 0 t.kids.length),.box zC,.arr 1 (t.names.map aa.str) (t.names.map aa.str).length,.arr 5 ((t.kids.set (0+k) (t.kids.getD (0+k) Ty.zero)).map Ty.enc) 0]) kq (by rw [DC])),by simp [af.belO]⟩⟩
 · omega
 · omega
 iterate 26 kernel_rfl
 apply qf (decide_eq_false hb1)
 refine bn 0 kq kq ?_
 apply ae
 apply ae
 apply ay
 apply ab
 apply qz [(1,.ptr 0 0),(2,.ptr 1 0)]
 apply qW 2 [(2,.ptr 1 0)] [bK t (.own 3 0 t.kids.length),bK t (.own 3 0 t.kids.length),.arr 1 (t.names.map aa.str) (t.names.map aa.str).length,.arr 5 (t.kids.map Ty.enc) 0]
 refine ya [3,1] [(2,.ptr 1 0)] [.arr 5 (t.kids.map Ty.enc) 0,bK t (.own 0 0 t.kids.length)] dq xf xf xf xf ?_
 apply qZ [(2,.ptr 1 0)] [.arr 5 (t.kids.map Ty.enc) 0,bK t (.own 0 0 t.kids.length)]
 refine a8 kq ?_
 refine ee (l:=[gK t (.own 0 0 t.kids.length)]) 1 [.arr 5 (t.kids.map Ty.enc) 0] iq kq (Nat.zero_le _) kq HV Ih ?_
 · exact ⟨rfl,rfl⟩
 iterate 21 kernel_rfl
theorem lR (t:Ty) (hs:t.sz<100000000):aC cx 67 [t.v] t.v:=xv (nh t hs)
mutual
def renT (f:Int→Int):Ty→Ty
 | .mk k x n l ks=>.mk k x (if isV k n=true then f n else n) l (dG f ks)
def dG (f:Int→Int):List Ty→List Ty
 | []=>[]
 | t::l=>renT f t::dG f l
end
theorem iM (f:Int→Int):∀ l,dG f l=l.map (renT f)
 | []=>rfl
 | t::l=>by rw [dG,iM f l];rfl
theorem nN (f:Int→Int) (t:Ty):(renT f t).kind=t.kind:=by cases t;rfl
theorem ny (f:Int→Int) (t:Ty):(renT f t).name=t.name:=by cases t;rfl
theorem lK (f:Int→Int) (t:Ty):(renT f t).names=t.names:=by cases t;rfl
theorem ze (f:Int→Int) (t:Ty):(renT f t).n=if isV t.kind t.n=true then f t.n else t.n:=by cases t;rfl
theorem Cu (f:Int→Int) (t:Ty):(renT f t).kids=t.kids.map (renT f):=by cases t;simp only [renT,Ty.kids_mk,iM]
def rkL (f:Int→Int) (ks:List Ty) (k:Nat):List Ty:=(ks.take k).map (renT f)++ks.drop k
@[simp] theorem Jt (f:Int→Int) (ks:List Ty) (k:Nat):(rkL f ks k).length=ks.length:=by simp [rkL];omega
abbrev At:=List (Int×Int)
@[simp] theorem Js (k:Nat) (l:At):((av iE iE l).all fun e=>e.1.bel k && e.2.bel k)=true:=by
 simp [av,List.all_eq_true]
def i4 (m:At) (n:Int):Int:=(ai n m).getD 0
noncomputable def c77:Code:=aB Tryz.f77
def rnF (t:Ty) (k:Nat):List Int:=(((az t).take k).map Occ.n).foldl cP []
theorem kH {α:Type} (l:List α) (k:Nat) (d:α) (h:k<l.length):l.take (k+1)=l.take k++[l.getD k d]:=by
 rw [List.take_succ_eq_append_getElem h,List.getD_eq_getElem?_getD,List.getElem?_eq_getElem h];rfl
theorem uZ {t:Ty} {k:Nat} (h:k<(az t).length):rnF t (k+1)=cP (rnF t k) ((az t).getD k Occ.zero).n:=by
 unfold rnF
 rw [kH _ k Occ.zero h,List.map_append,List.foldl_append];rfl
theorem CH {t:Ty} {k:Nat} (h:k<(az t).length) (hc:(rnF t k).contains ((az t).getD k Occ.zero).n=true):rnF t k=rnF t (k+1):=by rw [uZ h,cP,if_pos hc]
theorem GC {t:Ty} {k:Nat} (h:k<(az t).length) (hc:¬ (rnF t k).contains ((az t).getD k Occ.zero).n=true):rnF t k++[((az t).getD k Occ.zero).n]=rnF t (k+1):=by rw [uZ h,cP,if_neg hc]
theorem HA {t:Ty} {k:Nat} (h:(az t).length≤k):rnF t k=aw [] t:=by unfold rnF aw;rw [List.take_of_length_le h]
theorem G6 (t:Ty) (k:Nat):(rnF t k).length≤k:=by
 have:=iK (((az t).take k).map Occ.n) []
 rw [List.length_map,List.length_take] at this
 unfold rnF;simp only [List.length_nil] at this;omega
noncomputable def c35:Code:=aB Tryz.f35
theorem I1 {p:Prop} (h:p:=by simp only [List.length_append,List.length_map,List.length_cons,List.length_nil];omega):p:=h
theorem ls (t:Ty) (hs:t.sz<100000000):aC cx 35 [Ty.v t] (.imm ((aw [] t).map iE)):=by
 have hol:=mj t
 refine am (cx:=cx) 33 0 [(ResultVar.tmp 2)] Tryz.func35 rfl rfl rfl rfl rfl zq ?_
 show wpA cx 33 0 (at_ c35 []) _ _ _
 apply qZ [(0,Ty.v t)] []
 apply qW 2 [(1,.ptr 0 0)] [t.bx]
 apply qV 1
 refine bR (args:=[aG t]) kq kq kq kq (BT t oq) (by simp [Ty.v,bo,Occ.v]) (by simp [Ty.v]) (by simp [Ty.v,bh]) ?_
 apply qR 1 [(3,.imm ((az t).map Occ.v))] [t.bx]
 apply qU 1 [(3,.imm ((az t).map Occ.v)),(4,.full [])]
 refine rK 4 1 dq kq ?_
 apply qZ [(3,.imm ((az t).map Occ.v)),(4,.own 1 0 0)] [t.bx,.arr 1 (([]:List (Int)).map iE) 0]
 apply ao
 apply qU 1 [(3,.imm ((az t).map Occ.v)),(4,.own 1 0 0),(5,.int .i64 0)]
 apply qB 0
 refine bB (σ:=Nat) (fun k=>[(3,.imm ((az t).map Occ.v)),(4,.own 1 0 (rnF t k).length),(5,.int .i64 ((k:Nat):Int))]) (fun k=>[t.bx,.arr 1 ((rnF t k).map iE) ((rnF t k).map iE).length]) (fun k=>k≤(az t).length) (fun k=>(az t).length - k) 0 kq (by exact Nat.zero_le _) ⟨⟨kq,kq,kq,trivial⟩,by simp [aQ,aa.bel],by simp,kq,by simp [af.belO,-List.map_append]⟩ ?_
 rintro k hk
 have hrl:=G6 t k
 apply ao
 apply qV 2
 refine qy (au (l:=(az t)) (enc:=Occ.v) kq nK) ?_ ?_ ?_
 apply qR 1 [(3,.imm ((az t).map Occ.v)),(4,.own 1 0 (rnF t k).length),(5,nI k),(12,.bool (decide (((k:Nat):Int)<(((az t).length:Nat):Int))))] [t.bx,.arr 1 ((rnF t k).map iE) ((rnF t k).map iE).length]
 by_cases hb1:((k:Nat):Int)<(((az t).length:Nat):Int)
 apply qt (decide_eq_true hb1)
 apply qK
 apply qz [(3,.imm ((az t).map Occ.v)),(4,.own 1 0 (rnF t k).length),(5,nI k)]
 apply ao
 apply qB 1
 apply qV 3
 refine qy (aA (k:=.i64) (l:=(az t)) (enc:=Occ.v) (i:=((k:Nat):Int)) Occ.zero kq nK yK (fun _=>rfl) oq oq) ?_ ?_ ?_
 apply qr 2
 refine vZ (args:=[.own 1 0 (rnF t k).length,.int .i64 (((az t).getD k Occ.zero).n)]) (F:=[t.bx,.arr 1 ((rnF t k).map iE) ((rnF t k).map iE).length]) kq kq kq kq (sL (rnF t k) (((az t).getD k Occ.zero).n) oq) [t.bx,.arr 1 ((rnF t k).map iE) ((rnF t k).map iE).length] kq (by simp [bf,cd,aV,aa.frz,aa.owns]) (by simp [Ty.v]) (by simp [bf,cd,aV,aa.frz,aa.owns]) ?_
 apply qR 1 [(3,.imm ((az t).map Occ.v)),(4,.own 1 0 (rnF t k).length),(5,nI k),(6,.bool ((rnF t k).contains (((az t).getD k Occ.zero).n)))] [t.bx,.arr 1 ((rnF t k).map iE) ((rnF t k).map iE).length]
 apply qU 2 [(3,.imm ((az t).map Occ.v)),(4,.own 1 0 (rnF t k).length),(5,nI k),(23,.bool (!((rnF t k).contains (((az t).getD k Occ.zero).n))))]
 by_cases hb2:((rnF t k).contains (((az t).getD k Occ.zero).n))=true
 refine qf (x:=(!((rnF t k).contains (((az t).getD k Occ.zero).n)))) (congrArg not (hb2)) ?_ ?_
 apply qk
 apply aj
 apply ab
 apply qz [(3,.imm ((az t).map Occ.v)),(4,.own 1 0 (rnF t k).length),(5,nI k)]
 refine wP 1 [t.bx,.arr 1 ((rnF t k).map iE) ((rnF t k).map iE).length] (by simp [cd]) ?_
 apply qz [(3,.imm ((az t).map Occ.v)),(4,.own 1 0 (rnF t k).length),(5,nI k)]
 apply qo
 apply qr 1
 refine qy (aN (a:=((k:Nat):Int)) (b:=1) kq oq oq) ?_ ?_ ?_
 apply qr 1
 apply qe
 refine ab ⟨k+1,?_,?_,⟨⟨kq,(Eq.trans (b:=.own 1 0 (rnF t k).length) kq (by rw [CH oq aq])),kq,trivial⟩,by simp [aQ,aa.bel],by simp,(Eq.trans (b:=[t.bx,.arr 1 ((rnF t k).map iE) ((rnF t k).map iE).length]) kq (by rw [CH oq aq])),by simp [af.belO,-List.map_append]⟩⟩
 · omega
 · omega
 iterate 10 kernel_rfl
 refine qt (x:=(!((rnF t k).contains (((az t).getD k Occ.zero).n)))) (congrArg not (Bool.eq_false_iff.2 hb2)) ?_ ?_
 apply qo
 apply qr 3
 refine qy (aA (k:=.i64) (l:=(az t)) (enc:=Occ.v) (i:=((k:Nat):Int)) Occ.zero kq nK yK (fun _=>rfl) oq oq) ?_ ?_ ?_
 apply qr 3
 refine qY (bc (o:=1) (len:=((rnF t k).length)) (l:=(rnF t k)) (xs:=[(((az t).getD k Occ.zero).n)]) (enc:=iE) (sz:=1) (fr:=((rnF t k).map iE).length) (x:=(.full [.int .i64 (((az t).getD k Occ.zero).n)])) kq cU ty3 cU rfl kq rfl rfl kq ⟨by decide,by kernel_rfl⟩ (fun _=>rfl) I1 I1) ?_ ?_ ?_
 apply qr 1
 apply qe
 apply aj
 apply ab
 apply qZ [(3,.imm ((az t).map Occ.v)),(4,.own 1 0 ((rnF t k)++[(((az t).getD k Occ.zero).n)]).length),(5,nI k)] [t.bx,.arr 1 (((rnF t k)++[(((az t).getD k Occ.zero).n)]).map iE) ((rnF t k).map iE).length]
 refine wP 1 [t.bx,.arr 1 (((rnF t k)++[(((az t).getD k Occ.zero).n)]).map iE) (((rnF t k)++[(((az t).getD k Occ.zero).n)]).map iE).length] (by simp [cd]) ?_
 apply qZ [(3,.imm ((az t).map Occ.v)),(4,.own 1 0 ((rnF t k)++[(((az t).getD k Occ.zero).n)]).length),(5,nI k)] [t.bx,.arr 1 (((rnF t k)++[(((az t).getD k Occ.zero).n)]).map iE) (((rnF t k)++[(((az t).getD k Occ.zero).n)]).map iE).length]
 apply qo
 apply qr 1
 refine qy (aN (a:=((k:Nat):Int)) (b:=1) kq oq oq) ?_ ?_ ?_
 apply qr 1
 apply qe
 refine ab ⟨k+1,?_,?_,⟨⟨kq,(Eq.trans (b:=.own 1 0 ((rnF t k)++[(((az t).getD k Occ.zero).n)]).length) kq (by rw [GC oq aq])),kq,trivial⟩,by simp [aQ,aa.bel],by simp,(Eq.trans (b:=[t.bx,.arr 1 (((rnF t k)++[(((az t).getD k Occ.zero).n)]).map iE) (((rnF t k)++[(((az t).getD k Occ.zero).n)]).map iE).length]) kq (by rw [GC oq aq])),by simp [af.belO,-List.map_append]⟩⟩
 · omega
 · omega
 iterate 30 kernel_rfl
 apply qf (decide_eq_false hb1)
 refine bn 0 kq kq ?_
 apply ae
 apply ae
 apply ay
 apply ab
 apply qz [(4,.own 1 0 (rnF t k).length)]
 apply qU 2 [(2,.own 1 0 (rnF t k).length)]
 refine a8 kq ?_
 refine fk (l:=[.own 1 0 (rnF t k).length]) iq kq ?_
 · rw [HA oq]
   simp [aK,aa.frz,bf]
 iterate 18 kernel_rfl
def bp:List Int→List Int→Int→Int
 | x::F,y::G,n=>if x=n then y else bp F G n
 | _,_,n=>n
theorem Aa {n:Int}:∀ (F G:List Int) (j:Nat),(∀ i,i<j→¬ F.getD i 0=n)→j<F.length→F.length≤G.length→F.getD j 0=n→bp F G n=G.getD j 0
 | [],G,j,_,h,_,_=>by simp at h
 | x::F,[],j,_,_,h,_=>by simp at h
 | x::F,y::G,0,_,_,_,h=>by simp only [List.getD_cons_zero] at h ⊢;rw [bp,if_pos h]
 | x::F,y::G,j+1,ha,hj,hl,h=>by
  have h0:=ha 0 oq
  simp only [List.getD_cons_zero,List.getD_cons_succ] at h0 h ⊢
  rw [bp,if_neg h0]
  exact Aa F G j (fun i hi=>by have:=ha (i+1) oq;simpa only [List.getD_cons_succ] using this) (by simpa using hj) (by simpa using hl) h
theorem A4 {n:Int}:∀ (F G:List Int),(∀ i,i<F.length→¬ F.getD i 0=n)→bp F G n=n
 | [],G,_=>by unfold bp;rfl
 | x::F,[],_=>by unfold bp;rfl
 | x::F,y::G,ha=>by
  have h0:=ha 0 zq
  simp only [List.getD_cons_zero] at h0
  rw [bp,if_neg h0]
  exact A4 F G (fun i hi=>by have:=ha (i+1) (by simpa using hi);simpa only [List.getD_cons_succ] using this)
def rnK (f:Int→Int) (t:Ty) (k:Nat):List Ty:=(t.kids.take k).map (renT f)
theorem DX {f:Int→Int} {t:Ty} {k:Nat} (h:k<t.kids.length):rnK f t k++[renT f (t.kids.getD k Ty.zero)]=rnK f t (k+1):=by
 unfold rnK;rw [eB _ _ h,List.map_append];rfl
theorem Gd (f:Int→Int) (t:Ty) (k:Nat):(rnK f t k).length≤k:=by unfold rnK;rw [List.length_map,List.length_take];omega
theorem uE {f:Int→Int} {t:Ty} {k:Nat} (h:t.kids.length≤k):rnK f t k=(renT f t).kids:=by rw [Cu,rnK,List.take_of_length_le h]
theorem Gj {F G:List Int} {t:Ty} {j:Nat} (hv:t.kind=6∨t.kind=5∧¬ t.n=0) (ha:∀ i,i<j→¬ F.getD i 0=t.n) (hj:j<F.length) (hl:F.length≤G.length) (h:F.getD j 0=t.n):G.getD j 0=(renT (bp F G) t).n:=by
 rw [ze,if_pos (by unfold isV;rcases hv with h|h <;> simp [h]),Aa F G j ha hj hl h]
theorem EU {F G:List Int} {t:Ty} (ha:∀ i,i<F.length→¬ F.getD i 0=t.n):t.n=(renT (bp F G) t).n:=by
 rw [ze];split
 · rw [A4 F G ha]
 · rfl
theorem Fp {F G:List Int} {t:Ty} (h6:¬ t.kind=6) (h5:¬ (t.kind=5∧¬ t.n=0)):t.n=(renT (bp F G) t).n:=by
 rw [ze,if_neg (by unfold isV;simp [h6];intro h;by_cases hn:t.n=0;exact hn;exact absurd ⟨h,hn⟩ h5)]
noncomputable def c32:Code:=aB Tryz.f32
theorem Ji {p:Prop} (h:p:=by simp only [List.length_append,List.length_cons,List.length_nil];omega):p:=h
theorem xA (t:Ty) (F G:List Int) (hs:t.sz<100000000) (hF:F.length<1000000000) (hfg:F.length≤G.length):aC cx 32 [Ty.v t,.imm (F.map iE),.imm (G.map iE)] (Ty.v (renT (bp F G) t)):=by
 induction hN:t.sz using Nat.strongRecOn generalizing t with|_ N ih =>
 have ihN:∀ x:Ty,x.sz<t.sz→aC cx 32 [x.v,.imm (F.map (.int .i64)),.imm (G.map (.int .i64))] (renT (bp F G) x).v:=fun x h1=>ih _ (by rw [← hN];exact h1) x (Nat.lt_trans h1 hs) rfl
 have hz1:=bP t
 have hz2:=cF t
 refine am (cx:=cx) 65 0 [(ResultVar.cell 6 25)] Tryz.func32 rfl rfl rfl rfl rfl zq ?_
 show wpA cx 65 0 (at_ c32 []) _ _ _
 apply qZ [(0,Ty.v t),(1,.imm (F.map iE)),(2,.imm (G.map iE))] []
 apply qW 2 [(1,.imm (F.map iE)),(2,.imm (G.map iE)),(3,.ptr 0 0),(6,.ptr 1 0)] [t.bx,.box zC]
 apply qW 3 [(1,.imm (F.map iE)),(2,.imm (G.map iE)),(3,.ptr 0 0),(6,.ptr 1 0),(7,.ptr 2 0)] [t.bx,.box zC,t.bx]
 apply qW 2 [(1,.imm (F.map iE)),(2,.imm (G.map iE)),(3,.ptr 0 0),(6,.ptr 1 0),(7,.ptr 2 0)] [t.bx,.box zC,bK t (.full [])]
 refine mh 2 4 5 (cs:=[.int .i64 (t.kind),.str t.name,.int .i64 (t.n),.imm (t.names.map aa.str),.full []]) [.int .i64 (t.kind),.str t.name,.int .i64 (t.n),.imm (t.names.map aa.str),.own 3 0 0] dq kq kq kq ?_
 apply qZ [(1,.imm (F.map iE)),(2,.imm (G.map iE)),(3,.ptr 0 0),(6,.ptr 1 0),(7,.ptr 2 0)] [t.bx,.box zC,bK t (.own 3 0 0),.arr 5 (([]:List (Ty)).map Ty.enc) 0]
 apply ao
 apply qU 1 [(1,.imm (F.map iE)),(2,.imm (G.map iE)),(3,.ptr 0 0),(6,.ptr 1 0),(7,.ptr 2 0),(8,.int .i64 0)]
 apply qB 0
 refine bB (σ:=Nat) (fun k=>[(1,.imm (F.map iE)),(2,.imm (G.map iE)),(3,.ptr 0 0),(6,.ptr 1 0),(7,.ptr 2 0),(8,.int .i64 ((k:Nat):Int))]) (fun k=>[t.bx,.box zC,bK t (.own 3 0 (rnK (bp F G) t k).length),.arr 5 ((rnK (bp F G) t k).map Ty.enc) 0]) (fun k=>k≤t.kids.length) (fun k=>t.kids.length - k) 0 kq (by exact Nat.zero_le _) ⟨⟨kq,kq,kq,kq,kq,kq,trivial⟩,by simp [aQ,aa.bel],by simp,kq,by simp [af.belO,bL,Ty.enc_v]⟩ ?_
 rintro k hk
 have hrl:=Gd (bp F G) t k
 apply ao
 apply qV 3
 refine qy (au (l:=t.kids) (enc:=Ty.enc) kq ba) ?_ ?_ ?_
 apply qR 1 [(1,.imm (F.map iE)),(2,.imm (G.map iE)),(3,.ptr 0 0),(6,.ptr 1 0),(7,.ptr 2 0),(8,nI k),(16,.bool (decide (((k:Nat):Int)<((t.kids.length:Nat):Int))))] [t.bx,.box zC,bK t (.own 3 0 (rnK (bp F G) t k).length),.arr 5 ((rnK (bp F G) t k).map Ty.enc) 0]
 by_cases hb1:((k:Nat):Int)<((t.kids.length:Nat):Int)
 apply qt (decide_eq_true hb1)
 apply qK
 apply qz [(1,.imm (F.map iE)),(2,.imm (G.map iE)),(3,.ptr 0 0),(6,.ptr 1 0),(7,.ptr 2 0),(8,nI k)]
 apply ao
 apply qB 1
 refine cR cxM kq (kl aJ) (bq ?_)
 apply qu 5
 refine qd ((aA (k:=.i64) (l:=t.kids) (enc:=Ty.enc) (i:=((k:Nat):Int)) Ty.zero kq ba bV bk oq oq).trans (congrArg (fun cs=>some (aa.pimm cs 0,_)) (aU (t.kids.getD k Ty.zero)))) ?_ ?_ ?_ ?_
 apply qu 3
 refine d4 (args:=[aG (t.kids.getD k Ty.zero),.imm (F.map iE),.imm (G.map iE)]) kq kq kq kq kq (ihN (t.kids.getD k Ty.zero) (cu t _ oq)) (by intro _;simp [Ty.v,bo,Occ.v]) (by simp [Ty.v]) (by simp [Ty.v,bh]) ?_
 apply qu 1
 refine qD (bc (o:=3) (len:=((rnK (bp F G) t k).length)) (l:=(rnK (bp F G) t k)) (xs:=[(renT (bp F G) (t.kids.getD k Ty.zero))]) (enc:=Ty.enc) (sz:=5) (fr:=0) (x:=(.full [Ty.v (renT (bp F G) (t.kids.getD k Ty.zero))])) kq ba bV ba rfl kq rfl rfl (Eq.trans (b:=some [Ty.v (renT (bp F G) (t.kids.getD k Ty.zero))]) kq (by simp [Ty.enc_v])) ⟨by decide,by kernel_rfl⟩ gZ Ji Ji) ?_ ?_ ?_ ?_
 apply qu 2
 refine cq kq ⟨kq,?_⟩
 apply aj
 apply ab
 apply qZ [(1,.imm (F.map iE)),(2,.imm (G.map iE)),(3,.ptr 0 0),(6,.ptr 1 0),(7,.ptr 2 0),(8,nI k)] [t.bx,.box zC,bK t (.own 3 0 ((rnK (bp F G) t k)++[(renT (bp F G) (t.kids.getD k Ty.zero))]).length),.arr 5 (((rnK (bp F G) t k)++[(renT (bp F G) (t.kids.getD k Ty.zero))]).map Ty.enc) 0]
 apply qo
 apply qr 1
 refine qy (aN (a:=((k:Nat):Int)) (b:=1) kq oq oq) ?_ ?_ ?_
 apply qr 1
 apply qe
 refine ab ⟨k+1,?_,?_,⟨⟨kq,kq,kq,kq,kq,kq,trivial⟩,by simp [aQ,aa.bel],by simp,(Eq.trans (b:=[t.bx,.box zC,bK t (.own 3 0 ((rnK (bp F G) t k)++[(renT (bp F G) (t.kids.getD k Ty.zero))]).length),.arr 5 (((rnK (bp F G) t k)++[(renT (bp F G) (t.kids.getD k Ty.zero))]).map Ty.enc) 0]) kq (by rw [DX oq])),by simp [af.belO,bL,Ty.enc_v]⟩⟩
 · omega
 · omega
 iterate 23 kernel_rfl
 apply qf (decide_eq_false hb1)
 refine bn 0 kq kq ?_
 apply ae
 apply ae
 apply ay
 apply ab
 apply qz [(1,.imm (F.map iE)),(2,.imm (G.map iE)),(3,.ptr 0 0),(6,.ptr 1 0),(7,.ptr 2 0)]
 apply ao
 apply qV 4
 by_cases hb2:(t.kind)=6
 apply qm [34,35] (beq_iff_eq.2 hb2)
 apply qR 9 [(1,.imm (F.map iE)),(2,.imm (G.map iE)),(3,.ptr 0 0),(6,.ptr 1 0),(7,.ptr 2 0),(44,.bool true)] [t.bx,.box zC,bK t (.own 3 0 (rnK (bp F G) t k).length),.arr 5 ((rnK (bp F G) t k).map Ty.enc) 0]
 refine cw kq kq ?_
 apply qU 1 [(1,.imm (F.map iE)),(2,.imm (G.map iE)),(3,.ptr 0 0),(6,.ptr 1 0),(7,.ptr 2 0),(9,.int .i64 0)]
 apply qB 2
 refine bB (σ:=Nat) (fun j=>[(1,.imm (F.map iE)),(2,.imm (G.map iE)),(3,.ptr 0 0),(6,.ptr 1 0),(7,.ptr 2 0),(9,.int .i64 ((j:Nat):Int))]) (fun j=>[t.bx,.box zC,bK t (.own 3 0 (rnK (bp F G) t k).length),.arr 5 ((rnK (bp F G) t k).map Ty.enc) 0]) (fun j=>j≤F.length∧∀ i,i<j→¬ F.getD i 0=t.n) (fun j=>F.length - j) 0 kq zq ⟨⟨kq,kq,kq,kq,kq,kq,trivial⟩,by simp [aQ,aa.bel],by simp,kq,by simp [af.belO,bL,Ty.enc_v]⟩ ?_
 rintro j ⟨hj,ha⟩
 apply ao
 apply qV 2
 refine qy (au (l:=F) (enc:=iE) kq cU) ?_ ?_ ?_
 apply qR 1 [(1,.imm (F.map iE)),(2,.imm (G.map iE)),(3,.ptr 0 0),(6,.ptr 1 0),(7,.ptr 2 0),(9,nI j),(48,.bool (decide (((j:Nat):Int)<((F.length:Nat):Int))))] [t.bx,.box zC,bK t (.own 3 0 (rnK (bp F G) t k).length),.arr 5 ((rnK (bp F G) t k).map Ty.enc) 0]
 by_cases hb3:((j:Nat):Int)<((F.length:Nat):Int)
 apply qt (decide_eq_true hb3)
 apply qK
 apply qz [(1,.imm (F.map iE)),(2,.imm (G.map iE)),(3,.ptr 0 0),(6,.ptr 1 0),(7,.ptr 2 0),(9,nI j)]
 apply ao
 apply qB 3
 apply ao
 refine cR cxM kq aJ (bq ?_)
 apply qu 2
 refine qd (aA (k:=.i64) (l:=F) (enc:=iE) (i:=((j:Nat):Int)) 0 kq cU ty3 (fun _=>rfl) oq oq) ?_ ?_ ?_ ?_
 apply qu 4
 refine cq kq ⟨kq,?_⟩
 apply ab
 apply qZ [(1,.imm (F.map iE)),(2,.imm (G.map iE)),(3,.ptr 0 0),(6,.ptr 1 0),(7,.ptr 2 0),(9,nI j),(57,.bool (((F.getD j 0))==(t.n)))] [t.bx,.box zC,bK t (.own 3 0 (rnK (bp F G) t k).length),.arr 5 ((rnK (bp F G) t k).map Ty.enc) 0]
 by_cases hb4:((F.getD j 0))=(t.n)
 apply qt (beq_iff_eq.2 hb4)
 apply qV 2
 refine qy (aA (k:=.i64) (l:=G) (enc:=iE) (i:=((j:Nat):Int)) 0 kq cU ty3 (fun _=>rfl) oq oq) ?_ ?_ ?_
 apply qR 3 [(6,.ptr 1 0),(7,.ptr 2 0)] [t.bx,.box zC,.box [.int .i64 (t.kind),.str t.name,.int .i64 ((G.getD j 0)),.imm (t.names.map aa.str),.own 3 0 (rnK (bp F G) t k).length],.arr 5 ((rnK (bp F G) t k).map Ty.enc) 0]
 apply qW 2 [(6,.ptr 1 0)] [t.bx,.box [.int .i64 (t.kind),.str t.name,.int .i64 ((G.getD j 0)),.imm (t.names.map aa.str),.own 3 0 (rnK (bp F G) t k).length],.box [.int .i64 (t.kind),.str t.name,.int .i64 ((G.getD j 0)),.imm (t.names.map aa.str),.own 3 0 (rnK (bp F G) t k).length],.arr 5 ((rnK (bp F G) t k).map Ty.enc) 0]
 refine a8 kq ?_
 apply iR
 apply aR
 apply aR
 apply iR
 apply aR
 refine fk (l:=[.agg [.int .i64 (t.kind),.str t.name,.int .i64 ((G.getD j 0)),.imm (t.names.map aa.str),.own 3 0 (rnK (bp F G) t k).length]]) iq kq ?_
 rotate_left
 iterate 6 kernel_rfl
 apply qf (beq_eq_false_iff_ne.2 hb4)
 apply qk
 apply aj
 apply ab
 apply qz [(1,.imm (F.map iE)),(2,.imm (G.map iE)),(3,.ptr 0 0),(6,.ptr 1 0),(7,.ptr 2 0),(9,nI j)]
 apply qo
 apply qr 1
 refine qy (aN (a:=((j:Nat):Int)) (b:=1) kq oq oq) ?_ ?_ ?_
 apply qr 1
 apply qe
 refine ab ⟨j+1,?_,?_,⟨⟨kq,kq,kq,kq,kq,kq,trivial⟩,by simp [aQ,aa.bel],by simp,kq,by simp [af.belO,bL,Ty.enc_v]⟩⟩
 · omega
 · refine ⟨by omega,fun i hi=>?_⟩
   rcases Nat.lt_succ_iff_lt_or_eq.1 hi with h|h
   · exact ha i h
   · subst h;assumption
 iterate 22 kernel_rfl
 apply qf (decide_eq_false hb3)
 refine bn 2 kq kq ?_
 apply ae
 apply ae
 apply ay
 apply ab
 apply qz [(6,.ptr 1 0),(7,.ptr 2 0)]
 apply qW 2 [(6,.ptr 1 0)] [t.bx,bK t (.own 3 0 (rnK (bp F G) t k).length),bK t (.own 3 0 (rnK (bp F G) t k).length),.arr 5 ((rnK (bp F G) t k).map Ty.enc) 0]
 refine a8 kq ?_
 refine fk (l:=[gK t (.own 3 0 (rnK (bp F G) t k).length)]) iq kq ?_
 rotate_left
 iterate 13 kernel_rfl
 apply qm [34,35] (beq_eq_false_iff_ne.2 hb2)
 apply qr 4
 by_cases hb5:(t.kind)=5
 apply qm [38,39] (beq_iff_eq.2 hb5)
 apply qR 5 [(1,.imm (F.map iE)),(2,.imm (G.map iE)),(3,.ptr 0 0),(6,.ptr 1 0),(7,.ptr 2 0),(44,.bool ((t.n) != 0))] [t.bx,.box zC,bK t (.own 3 0 (rnK (bp F G) t k).length),.arr 5 ((rnK (bp F G) t k).map Ty.enc) 0]
 by_cases hb6:(t.n)=0
 refine qf (x:=((t.n) != 0)) (bne_eq_false_iff_eq.2 hb6) ?_ ?_
 apply qK
 apply qz [(6,.ptr 1 0),(7,.ptr 2 0)]
 apply qW 2 [(6,.ptr 1 0)] [t.bx,bK t (.own 3 0 (rnK (bp F G) t k).length),bK t (.own 3 0 (rnK (bp F G) t k).length),.arr 5 ((rnK (bp F G) t k).map Ty.enc) 0]
 refine a8 kq ?_
 refine fk (l:=[gK t (.own 3 0 (rnK (bp F G) t k).length)]) iq kq ?_
 rotate_left
 iterate 4 kernel_rfl
 refine qt (x:=((t.n) != 0)) (bne_iff_ne.2 hb6) ?_ ?_
 apply qU 1 [(1,.imm (F.map iE)),(2,.imm (G.map iE)),(3,.ptr 0 0),(6,.ptr 1 0),(7,.ptr 2 0),(9,.int .i64 0)]
 apply qB 2
 refine bB (σ:=Nat) (fun j=>[(1,.imm (F.map iE)),(2,.imm (G.map iE)),(3,.ptr 0 0),(6,.ptr 1 0),(7,.ptr 2 0),(9,.int .i64 ((j:Nat):Int))]) (fun j=>[t.bx,.box zC,bK t (.own 3 0 (rnK (bp F G) t k).length),.arr 5 ((rnK (bp F G) t k).map Ty.enc) 0]) (fun j=>j≤F.length∧∀ i,i<j→¬ F.getD i 0=t.n) (fun j=>F.length - j) 0 kq zq ⟨⟨kq,kq,kq,kq,kq,kq,trivial⟩,by simp [aQ,aa.bel],by simp,kq,by simp [af.belO,bL,Ty.enc_v]⟩ ?_
 rintro j ⟨hj,ha⟩
 apply ao
 apply qV 2
 refine qy (au (l:=F) (enc:=iE) kq cU) ?_ ?_ ?_
 apply qR 1 [(1,.imm (F.map iE)),(2,.imm (G.map iE)),(3,.ptr 0 0),(6,.ptr 1 0),(7,.ptr 2 0),(9,nI j),(48,.bool (decide (((j:Nat):Int)<((F.length:Nat):Int))))] [t.bx,.box zC,bK t (.own 3 0 (rnK (bp F G) t k).length),.arr 5 ((rnK (bp F G) t k).map Ty.enc) 0]
 by_cases hb7:((j:Nat):Int)<((F.length:Nat):Int)
 apply qt (decide_eq_true hb7)
 apply qK
 apply qz [(1,.imm (F.map iE)),(2,.imm (G.map iE)),(3,.ptr 0 0),(6,.ptr 1 0),(7,.ptr 2 0),(9,nI j)]
 apply ao
 apply qB 3
 apply ao
 refine cR cxM kq aJ (bq ?_)
 apply qu 2
 refine qd (aA (k:=.i64) (l:=F) (enc:=iE) (i:=((j:Nat):Int)) 0 kq cU ty3 (fun _=>rfl) oq oq) ?_ ?_ ?_ ?_
 apply qu 4
 refine cq kq ⟨kq,?_⟩
 apply ab
 apply qZ [(1,.imm (F.map iE)),(2,.imm (G.map iE)),(3,.ptr 0 0),(6,.ptr 1 0),(7,.ptr 2 0),(9,nI j),(57,.bool (((F.getD j 0))==(t.n)))] [t.bx,.box zC,bK t (.own 3 0 (rnK (bp F G) t k).length),.arr 5 ((rnK (bp F G) t k).map Ty.enc) 0]
 by_cases hb8:((F.getD j 0))=(t.n)
 apply qt (beq_iff_eq.2 hb8)
 apply qV 2
 refine qy (aA (k:=.i64) (l:=G) (enc:=iE) (i:=((j:Nat):Int)) 0 kq cU ty3 (fun _=>rfl) oq oq) ?_ ?_ ?_
 apply qR 3 [(6,.ptr 1 0),(7,.ptr 2 0)] [t.bx,.box zC,.box [.int .i64 (t.kind),.str t.name,.int .i64 ((G.getD j 0)),.imm (t.names.map aa.str),.own 3 0 (rnK (bp F G) t k).length],.arr 5 ((rnK (bp F G) t k).map Ty.enc) 0]
 apply qW 2 [(6,.ptr 1 0)] [t.bx,.box [.int .i64 (t.kind),.str t.name,.int .i64 ((G.getD j 0)),.imm (t.names.map aa.str),.own 3 0 (rnK (bp F G) t k).length],.box [.int .i64 (t.kind),.str t.name,.int .i64 ((G.getD j 0)),.imm (t.names.map aa.str),.own 3 0 (rnK (bp F G) t k).length],.arr 5 ((rnK (bp F G) t k).map Ty.enc) 0]
 refine a8 kq ?_
 apply iR
 apply aR
 apply aR
 apply iR
 apply aR
 refine fk (l:=[.agg [.int .i64 (t.kind),.str t.name,.int .i64 ((G.getD j 0)),.imm (t.names.map aa.str),.own 3 0 (rnK (bp F G) t k).length]]) iq kq ?_
 rotate_left
 iterate 6 kernel_rfl
 apply qf (beq_eq_false_iff_ne.2 hb8)
 apply qk
 apply aj
 apply ab
 apply qz [(1,.imm (F.map iE)),(2,.imm (G.map iE)),(3,.ptr 0 0),(6,.ptr 1 0),(7,.ptr 2 0),(9,nI j)]
 apply qo
 apply qr 1
 refine qy (aN (a:=((j:Nat):Int)) (b:=1) kq oq oq) ?_ ?_ ?_
 apply qr 1
 apply qe
 refine ab ⟨j+1,?_,?_,⟨⟨kq,kq,kq,kq,kq,kq,trivial⟩,by simp [aQ,aa.bel],by simp,kq,by simp [af.belO,bL,Ty.enc_v]⟩⟩
 · omega
 · refine ⟨by omega,fun i hi=>?_⟩
   rcases Nat.lt_succ_iff_lt_or_eq.1 hi with h|h
   · exact ha i h
   · subst h;assumption
 iterate 22 kernel_rfl
 apply qf (decide_eq_false hb7)
 refine bn 2 kq kq ?_
 apply ae
 apply ae
 apply ay
 apply ab
 apply qz [(6,.ptr 1 0),(7,.ptr 2 0)]
 apply qW 2 [(6,.ptr 1 0)] [t.bx,bK t (.own 3 0 (rnK (bp F G) t k).length),bK t (.own 3 0 (rnK (bp F G) t k).length),.arr 5 ((rnK (bp F G) t k).map Ty.enc) 0]
 refine a8 kq ?_
 refine fk (l:=[gK t (.own 3 0 (rnK (bp F G) t k).length)]) iq kq ?_
 rotate_left
 iterate 14 kernel_rfl
 apply qm [38,39] (beq_eq_false_iff_ne.2 hb5)
 apply qR 5 [(1,.imm (F.map iE)),(2,.imm (G.map iE)),(3,.ptr 0 0),(6,.ptr 1 0),(7,.ptr 2 0),(44,.bool false)] [t.bx,.box zC,bK t (.own 3 0 (rnK (bp F G) t k).length),.arr 5 ((rnK (bp F G) t k).map Ty.enc) 0]
 refine d5 kq kq ?_
 apply qK
 apply qz [(6,.ptr 1 0),(7,.ptr 2 0)]
 apply qW 2 [(6,.ptr 1 0)] [t.bx,bK t (.own 3 0 (rnK (bp F G) t k).length),bK t (.own 3 0 (rnK (bp F G) t k).length),.arr 5 ((rnK (bp F G) t k).map Ty.enc) 0]
 refine a8 kq ?_
 refine fk (l:=[gK t (.own 3 0 (rnK (bp F G) t k).length)]) iq kq ?_
 rotate_left
 iterate 25 kernel_rfl
 all_goals
  have hkk:t.kids.length≤k:=by omega
  first|(have hn:=Gj (F:=F) (G:=G) (t:=t) oq ha oq hfg aq;rw [uE hkk,hn];simp [aK,aa.frz,bf,Ty.v,nN,ny,lK];done)|(have hn:=EU (F:=F) (G:=G) (t:=t) (fun i hi=>ha i oq);rw [uE hkk];simp [aK,aa.frz,bf,Ty.v,nN,ny,lK,← hn];done)|(have hn:=Fp (F:=F) (G:=G) (t:=t) oq oq;rw [uE hkk];simp [aK,aa.frz,bf,Ty.v,nN,ny,lK,← hn];done)
end Go.Proofs.YtdikgijfekfaoaaGreatDoor
