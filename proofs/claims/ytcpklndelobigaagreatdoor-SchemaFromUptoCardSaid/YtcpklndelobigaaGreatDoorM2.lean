/- What the finder says of one table: columns, key, references. Conditions: sizes that can be had; what the lexer, Storable and Valid answer for its parts. -/
import Derived.Test.YtcpklndelobigaaGreatDoorM1
set_option linter.all false
namespace Go.Proofs.YtcpklndelobigaaGreatDoor
open Go.Proofs.YtcpklndelobigaaGreatDoor.Abs
set_option maxRecDepth 20000
set_option maxHeartbeats 4000000
theorem cz (Z:List Sm) (M:Tm_) (s:BP) (doc:List UInt8) (d:Dc) (w:List (List UInt8)) (hb:s.2.length<1000000) (hn:d.name.length<1000000000) (hna:-1000000000000<=d.na/\d.na<=1000000000000):aE cx 25 [.ptr 0 0,.str doc,Dc.v d,.full (w.map .str)] (hpF Z M s) (fun v h=>v=.tup []/\h=hpF Z M (bH doc d w s)):=by
 refine mz ?_;have:=zu Z M s doc d w hb hn hna;simpa [aQ,cG,aG,aa.frz,aa.owns] using this
def nF (n:List UInt8) (b:Bool) (s:BP):BP:=(bM n b s.1,s.2)
theorem FG {a b:Nat} (h:((b:Nat):Int) > ((a:Nat):Int)):Nat.blt a b=true:=by rw [Nat.blt_eq];omega
theorem GR {a b:Nat} (h:¬ ((b:Nat):Int) > ((a:Nat):Int)):Nat.blt a b=false:=by
 cases e:Nat.blt a b with
 | false=>rfl
 | true=>rw [Nat.blt_eq] at e;omega
theorem AH {α:Type} (p:α->Bool) (d:α):∀ (l:List α) (k:Nat),k<l.length->(∀ i,i<k->p (l.getD i d)=false)->p (l.getD k d)=true->l.find? p=some (l.getD k d)
 | [],k,h,_,_=>by simp at h
 | x::l,0,_,_,hp=>by simp at hp;simp [List.find?,hp]
 | x::l,k+1,h,ha,hp=>by
  have h0:=ha 0 oq;simp at h0;have:=AH p d l k (by simpa using h) (fun i hi=>by have:=ha (i+1) oq;simpa using this) (by simpa using hp);simp only [List.find?,h0];rw [this];simp
theorem H2 {α:Type} (p:α->Bool) (d:α) (l:List α) (ha:∀ i,i<l.length->p (l.getD i d)=false):l.find? p=none:=by
 rw [List.find?_eq_none];intro x hx;obtain ⟨i,hi,rfl⟩:=List.getElem_of_mem hx;have:=ha i hi;rw [List.getD_eq_getElem?_getD,List.getElem?_eq_getElem hi] at this;simpa using this
theorem Ky {l:List Co} {n:List UInt8} {k:Nat} (hk:k<l.length) (ha:∀ i,i<k->¬ (l.getD i Co.zero).name=n) (h:(l.getD k Co.zero).name=n):bV l n=l.getD k Co.zero/\bt l n=true:=by
 have:=AH (fun t:Co=>t.name==n) Co.zero l k hk (fun i hi=>by simpa using ha i hi) (by simpa using h);unfold bV bt;rw [this];exact ⟨rfl,rfl⟩
theorem KF {l:List Co} {n:List UInt8} (ha:∀ i,i<l.length->¬ (l.getD i Co.zero).name=n):bV l n=Co.zero/\bt l n=false:=by
 have:=H2 (fun t:Co=>t.name==n) Co.zero l (fun i hi=>by simpa using ha i hi);unfold bV bt;rw [this];exact ⟨rfl,rfl⟩
def kn (l:List Co):Nat->List (List UInt8×Bool)
 | 0=>[]
 | i+1=>bM (l.getD i Co.zero).name true (kn l i)
theorem yL (l:List Co) (i:Nat) (h:i<l.length) (n:List UInt8):bt (l.take (i+1)) n=(bt (l.take i) n || ((l.getD i Co.zero).name==n)):=by
 unfold bt;rw [cm l Co.zero i h,List.find?_append];cases (l.take i).find? _ with
 | some x=>rfl
 | none =>
  generalize l.getD i Co.zero=c;cases e:c.name==n <;> simp [List.find?,e]
theorem oQ (l:List Co) (n:List UInt8):∀ i,i<=l.length->aO (kn l i) n=bt (l.take i) n
 | 0,_=>rfl
 | i+1,h=>by
  rw [kn,e5,oQ l n i oq,yL l i oq];by_cases e:n=(l.getD i Co.zero).name
  . rw [if_pos e,e];simp
  . rw [if_neg e,show ((l.getD i Co.zero).name==n)=false by simpa using fun q=>e q.symm,Bool.or_false]
section
variable {O:List UInt8->Bool} {U:Ty->Bool} {fst:List UInt8->Option Tb} {doc:List UInt8} {d:Dc} {s:BP} {i:Nat}
theorem oj {b c:Bool} (hb:s4 O d i=b) (hc:U (d.tab.cols.getD i Co.zero).type=c):jk O U doc d (i+1) s=(bif c then (bif b then eb d.name (jk O U doc d i s) else jk O U doc d i s) else bH doc d [(d.tab.cols.getD i Co.zero).name] (bif b then eb d.name (jk O U doc d i s) else jk O U doc d i s)):=by
 rw [jk,hb,hc]
theorem G5 (h:¬ O (d.tab.cols.getD i Co.zero).name=true):s4 O d i=true:=by unfold s4;rw [Bool.eq_false_iff.2 h];rfl
theorem F0 (hi:i<d.tab.cols.length) (h:O (d.tab.cols.getD i Co.zero).name=true) (hs:aO (kn d.tab.cols i) (d.tab.cols.getD i Co.zero).name=true):s4 O d i=true:=by
 unfold s4;rw [h,<- oQ _ _ _ (Nat.le_of_lt hi),hs];rfl
theorem FY (hi:i<d.tab.cols.length) (h:O (d.tab.cols.getD i Co.zero).name=true) (hs:¬ aO (kn d.tab.cols i) (d.tab.cols.getD i Co.zero).name=true):s4 O d i=false:=by
 unfold s4;rw [h,<- oQ _ _ _ (Nat.le_of_lt hi),Bool.eq_false_iff.2 hs];rfl
theorem rY (O:List UInt8->Bool) (U:Ty->Bool) (doc:List UInt8) (d:Dc) (s:BP):∀ i,(jk O U doc d i s).2.length<=s.2.length+i
 | 0=>Nat.le_refl _
 | i+1=>by
  have:=rY O U doc d s i;rw [jk];cases s4 O d i <;> cases U (d.tab.cols.getD i Co.zero).type <;> simp [eb,bH] <;> omega
theorem vB {b c:Bool} (hb:bt d.tab.cols (d.tab.key.getD i [])=b) (hc:(d.tab.key.take i).contains (d.tab.key.getD i [])=c):jW doc d (i+1) s=(bif c then bH doc d [d.tab.key.getD i []] (bif b then jW doc d i s else eb d.name (jW doc d i s)) else (bif b then jW doc d i s else eb d.name (jW doc d i s))):=by
 rw [jW,hb,hc]
theorem r5 (doc:List UInt8) (d:Dc) (s:BP):∀ i,(jW doc d i s).2.length<=s.2.length+i
 | 0=>Nat.le_refl _
 | i+1=>by
  have:=r5 doc d s i;rw [jW];cases bt d.tab.cols (d.tab.key.getD i []) <;> cases (d.tab.key.take i).contains (d.tab.key.getD i []) <;> simp [eb,bH] <;> omega
theorem GZ {c:Bool} (hc:fB fst d.tab i=c):bw fst doc d (i+1) s=(bif c then bH doc d [(d.tab.refs.getD i Rf.zero).col,(d.tab.refs.getD i Rf.zero).tab] (nF d.name (aO (bw fst doc d i s).1 d.name || jB fst d i) (bw fst doc d i s)) else nF d.name (aO (bw fst doc d i s).1 d.name || jB fst d i) (bw fst doc d i s)):=by
 rw [bw,hc];rfl
theorem qC (fst:List UInt8->Option Tb) (doc:List UInt8) (d:Dc) (s:BP):∀ i,(bw fst doc d i s).2.length<=s.2.length+i
 | 0=>Nat.le_refl _
 | i+1=>by
  have:=qC fst doc d s i;rw [bw];cases fB fst d.tab i <;> simp [bH] <;> omega
end
theorem yj {t:Tb} (h:((t.key.length:Nat):Int)<1):aS t=true:=by
 unfold aS;rw [show Nat.blt t.key.length 1=true by rw [Nat.blt_eq];omega];rfl
theorem xO {t:Tb} (h:((t.key.length:Nat):Int) > 3):aS t=true:=by
 unfold aS;rw [show Nat.blt 3 t.key.length=true by rw [Nat.blt_eq];omega,Bool.or_true]
theorem xI {t:Tb} (h:¬ ((t.key.length:Nat):Int)<1) (h2:¬ ((t.key.length:Nat):Int) > 3):aS t=false:=by
 unfold aS;rw [show Nat.blt t.key.length 1=false from Bool.eq_false_iff.2 (by rw [Ne,Nat.blt_eq];omega),show Nat.blt 3 t.key.length=false from Bool.eq_false_iff.2 (by rw [Ne,Nat.blt_eq];omega)];rfl
theorem KH {t:Tb} {w:Ty} (h:¬ ((t.key.length:Nat):Int)=1):tgt t w=false:=by
 unfold tgt;rw [show Nat.beq t.key.length 1=false from Bool.eq_false_iff.2 (by rw [Ne,Nat.beq_eq];omega)];rfl
theorem J4 {t:Tb} {w:Ty} (h:((t.key.length:Nat):Int)=1) (h2:¬ bt t.cols (t.key.getD 0 [])=true):tgt t w=false:=by
 unfold tgt;rw [Bool.eq_false_iff.2 h2,Bool.false_and,Bool.and_false]
theorem BT {t:Tb} {w:Ty} (h:((t.key.length:Nat):Int)=1) (h2:bt t.cols (t.key.getD 0 [])=true):tgt t w=(bV t.cols (t.key.getD 0 [])).type.beq w:=by
 unfold tgt;rw [h2,show Nat.beq t.key.length 1=true by rw [Nat.beq_eq];omega];rfl
noncomputable def P7:Code:=aF Tryz.f121
theorem yf (t:Co) :af cx 121 [Co.v t] (.str t.name):=by
 refine am (cx:=cx) 5 0 [(ResultVar.tmp 2)] Tryz.func121 rfl rfl rfl rfl rfl zq ?_;show wpA cx 5 0 (at_ P7 []) _ _ _;refine zZ (fun _=>[(0,Co.v t)]) (fun _=>[]) ?_ ?_;apply zW 2 (mT [(1,.ptr 0 0)] [0]) (mH [] [.box [.str t.name,.int .i64 (t.type.kind),.str t.type.name,.int .i64 (t.type.n),.imm (t.type.names.map aa.str),.imm (t.type.kids.map Ty.enc)]]);refine zW 3 (fun _=>[(2,.str t.name)]) (fun _=>[.box [.str t.name,.int .i64 (t.type.kind),.str t.type.name,.int .i64 (t.type.n),.imm (t.type.names.map aa.str),.imm (t.type.kids.map Ty.enc)]]) ?_ ?_;refine bq kq ?_;refine M5 (s:=t.name) (.inr rfl) kq ?_
 . rfl
 iterate 3 kernel_rfl
noncomputable def Qi:Code:=aF Tryz.f129
theorem aY {p:Prop} (h:p:=by simp [Ty.v,Ex.v,Ct.v,Co.v,Rf.v,Sm.v,Tb.v_cs,Sc.v,Md.v,Pb.v,Ls.v,-List.map_take,-List.map_drop,-List.map_append]):p:=h
theorem jL (l:List Co) (n:List UInt8) (hn:l.length<1000000000):af cx 129 [.imm (l.map Co.v),.fn (.func 121) [] [],.str n] (.tup [Co.v (bV l n),.bool (bt l n)]):=by
 refine am (cx:=cx) 25 0 [(ResultVar.cell 6 45),(ResultVar.tmp 7)] Tryz.func129 rfl rfl rfl rfl rfl zq ?_;show wpA cx 25 0 (at_ Qi []) _ _ _;refine zZ (fun _=>[(0,.imm (l.map Co.v)),(1,.fn (.func 121) [] []),(2,.str n)]) (fun _=>[]) ?_ ?_;apply zW 2 (mU [(6,.ptr 0 0)]) (mH [] [.box [.str [],.int .i64 0,.str [],.int .i64 0,.full [],.full []]]);apply ao;apply zV 1;refine qy (aw (l:=l) (enc:=Co.v) kq eL) ?_ ?_ ?_;apply zR 1 (mT [(11,.imm (l.map Co.v)),(12,nI l.length),(13,.int .i64 0)] [0]) id;apply qB 0;refine aU (σ:=Nat) (fun k=>[(1,.fn (.func 121) [] []),(2,.str n),(6,.ptr 0 0),(11,.imm (l.map Co.v)),(12,.int .i64 ((l.length:Nat):Int)),(13,.int .i64 ((k:Nat):Int))]) (fun k=>[.box [.str [],.int .i64 0,.str [],.int .i64 0,.full [],.full []]]) (fun k=>k<=l.length/\∀ i,i<k->¬ (l.getD i Co.zero).name=n) (fun k=>l.length - k) 0 kq (by exact ⟨Nat.zero_le _,fun i h=>absurd h (Nat.not_lt_zero i)⟩) (fg kq kq az (by simp [ax.belO,aa.bel,aM])) ?_;rintro k ⟨hk,ha⟩;apply zW 1 (mU [(14,.bool (decide (((k:Nat):Int)<((l.length:Nat):Int))))]) id;apply ao;by_cases hb1:((k:Nat):Int)<((l.length:Nat):Int);apply qt (decide_eq_true hb1);apply qK;apply zZ (mT [] [14]) id;apply ao;apply qB 1;apply zO;refine qy ((av (k:=.i64) (l:=l) (enc:=Co.v) (i:=((k:Nat):Int)) Co.zero kq eL kp (fun _=>rfl) oq oq).trans (congrArg (fun cs=>some (aa.pimm cs 0,_)) (dV (l.getD k Co.zero)))) ?_ ?_ ?_;apply zR 3 (mU [(9,.ptr 1 0)]) (mH [] [.box [.str (l.getD k Co.zero).name,.int .i64 ((l.getD k Co.zero).type.kind),.str (l.getD k Co.zero).type.name,.int .i64 ((l.getD k Co.zero).type.n),.imm ((l.getD k Co.zero).type.names.map aa.str),.imm ((l.getD k Co.zero).type.kids.map Ty.enc)]]);apply zV 2;refine qP (yf (l.getD k Co.zero)) aY aY aY kq ?_;apply zR 2 (mU [(21,.bool ((l.getD k Co.zero).name==n))]) id;by_cases hb2:(l.getD k Co.zero).name=n;apply qt (beq_iff_eq.2 hb2);refine zW 3 (fun _=>[(6,.ptr 0 0),(7,.bool true)]) (fun _=>[.box [.str (l.getD k Co.zero).name,.int .i64 ((l.getD k Co.zero).type.kind),.str (l.getD k Co.zero).type.name,.int .i64 ((l.getD k Co.zero).type.n),.imm ((l.getD k Co.zero).type.names.map aa.str),.imm ((l.getD k Co.zero).type.kids.map Ty.enc)],.box [.str (l.getD k Co.zero).name,.int .i64 ((l.getD k Co.zero).type.kind),.str (l.getD k Co.zero).type.name,.int .i64 ((l.getD k Co.zero).type.n),.imm ((l.getD k Co.zero).type.names.map aa.str),.imm ((l.getD k Co.zero).type.kids.map Ty.enc)]]) ?_ ?_;refine bq kq ?_;apply iR;apply aR;apply aR;apply iR;apply aR;refine cq (l:=[.agg [.str (l.getD k Co.zero).name,.int .i64 ((l.getD k Co.zero).type.kind),.str (l.getD k Co.zero).type.name,.int .i64 ((l.getD k Co.zero).type.n),.imm ((l.getD k Co.zero).type.names.map aa.str),.imm ((l.getD k Co.zero).type.kids.map Ty.enc)],.bool true]) (.inr rfl) kq ?_
 rotate_left
 iterate 2 kernel_rfl
 apply qf (beq_eq_false_iff_ne.2 hb2);apply qk;apply ag;apply ab;apply zZ (mT [] [9,21]) id;apply qo;refine qy (aA (a:=((k:Nat):Int)) (b:=1) kq oq oq) ?_ ?_ ?_;apply qr 1;apply qe;refine ab ⟨k+1,?_,?_,(fg kq kq az (by simp [ax.belO,aa.bel,aM]))⟩
 . omega
 . refine ⟨by omega,fun i hi=>?_⟩;rcases Nat.lt_succ_iff_lt_or_eq.1 hi with h|h
   . exact ha i h
   . subst h;assumption
 iterate 20 kernel_rfl
 apply qf (decide_eq_false hb1);refine aK 0 kq kq ?_;apply ac;apply ac;apply au;apply ab;refine zZ (fun _=>[(6,.ptr 0 0)]) id ?_ ?_;apply zW 1 (mU [(10,.ptr 1 0)]) (mH [] [.box [.str [],.int .i64 0,.str [],.int .i64 0,.full [],.full []]]);refine zW 3 (fun _=>[(6,.ptr 0 0),(7,.bool false)]) (fun _=>[.box [.str [],.int .i64 0,.str [],.int .i64 0,.full [],.full []],.box [.str [],.int .i64 0,.str [],.int .i64 0,.full [],.full []]]) ?_ ?_;refine bq kq ?_;refine cq (l:=[.agg [.str [],.int .i64 0,.str [],.int .i64 0,.full [],.full []],.bool false]) (.inr rfl) kq ?_
 rotate_left
 iterate 15 kernel_rfl
 all_goals
  first|(rw [(Ky (l:=l) (n:=n) (k:=k) oq ha aq).1,(Ky (l:=l) (n:=n) (k:=k) oq ha aq).2];simp [bg,aa.frz,aQ,Co.v];done)|(rw [(KF (l:=l) (n:=n) (fun i hi=>ha i oq)).1,(KF (l:=l) (n:=n) (fun i hi=>ha i oq)).2];simp [bg,aa.frz,aQ,Co.v,Co.zero,Ty.zero,Ty.kind,Ty.name,Ty.n,Ty.names,Ty.kids];done)
def bQ (l:List (List UInt8)) (s:List UInt8):Int:=match l.findIdx? (·==s) with
 | some i=>(i:Nat)
 | none=>-1
theorem oS {l:List (List UInt8)} {s:List UInt8} {k:Nat} (hk:k<l.length) (ha:∀ i,i<k->¬ s=l.getD i []) (h:s=l.getD k []):((k:Nat):Int)=bQ l s:=by
 have e:∀ i (h:i<l.length),l.getD i []=l[i]:=fun i h=>by rw [List.getD_eq_getElem?_getD,List.getElem?_eq_getElem h];rfl
 have:l.findIdx? (·==s)=some k:=by
  rw [List.findIdx?_eq_some_iff_getElem];refine ⟨hk,(by rw [<- e k hk,<- h];simp),fun j hj=>?_⟩;have:=ha j hj;rw [e j oq] at this;simpa using fun h=>this h.symm
 simp [bQ,this]
theorem oC {l:List (List UInt8)} {s:List UInt8} (ha:∀ i,i<l.length->¬ s=l.getD i []):-1=bQ l s:=by
 have:l.findIdx? (·==s)=none:=by
  rw [List.findIdx?_eq_none_iff];intro x hx;obtain ⟨i,hi,rfl⟩:=List.getElem_of_mem hx;have:=ha i hi;rw [List.getD_eq_getElem?_getD,List.getElem?_eq_getElem hi] at this;simpa using fun h:l[i]=s=>this h.symm
 simp [bQ,this]
theorem i6 (l:List (List UInt8)) (s:List UInt8):decide (bQ l s >= 0)=l.contains s:=by
 rw [Bool.eq_iff_iff];simp only [decide_eq_true_eq,List.contains_iff_mem];unfold bQ;split
 . rename_i i hi;obtain ⟨h1,h2,_⟩:=List.findIdx?_eq_some_iff_getElem.1 hi;simp at h2;exact ⟨fun _=>h2▸List.getElem_mem h1,fun _=>by omega⟩
 . rename_i hi;rw [List.findIdx?_eq_none_iff] at hi;exact ⟨fun h=>by omega,fun h=>by have:=hi s h;simp at this⟩
noncomputable def QQ:Code:=aF Tryz.f207
theorem vh (l:List (List UInt8)) (s:List UInt8) (hn:l.length<1000000000):af cx 207 [.imm (l.map aa.str),.str s] (.int .i64 (bQ l s)):=by
 refine am (cx:=cx) 19 0 [(ResultVar.tmp 4)] Tryz.func207 rfl rfl rfl rfl rfl zq ?_;show wpA cx 19 0 (at_ QQ []) _ _ _;refine zZ (fun _=>[(0,.imm (l.map aa.str)),(1,.str s)]) (fun _=>[]) ?_ ?_;apply zW 1 id id;apply ao;apply zV 1;refine qy (aw (l:=l) (enc:=aa.str) kq bf) ?_ ?_ ?_;apply zR 1 (mU [(7,nI l.length),(8,.int .i64 0)]) id;apply qB 0;refine aU (σ:=Nat) (fun k=>[(0,.imm (l.map aa.str)),(1,.str s),(7,.int .i64 ((l.length:Nat):Int)),(8,.int .i64 ((k:Nat):Int))]) (fun k=>[]) (fun k=>k<=l.length/\∀ i,i<k->¬ s=l.getD i []) (fun k=>l.length - k) 0 kq zq (fg kq kq az zq) ?_;rintro k ⟨hk,ha⟩;apply zW 1 (mU [(9,.bool (decide (((k:Nat):Int)<((l.length:Nat):Int))))]) id;apply ao;by_cases hb1:((k:Nat):Int)<((l.length:Nat):Int);apply qt (decide_eq_true hb1);apply qK;apply zZ (mT [] [9]) id;apply ao;apply qB 1;apply zW 2 (mU [(5,nI k)]) id;apply zV 3;refine qy (av (k:=.i64) (l:=l) (enc:=aa.str) (i:=((k:Nat):Int)) [] kq bf ty9 (fun _=>rfl) oq oq) ?_ ?_ ?_;refine zR 2 (fun _=>[(0,.imm (l.map aa.str)),(1,.str s),(5,nI k),(7,nI l.length),(8,nI k),(16,.bool (s==(l.getD k [])))]) (fun _=>[]) ?_ ?_;by_cases hb2:s=(l.getD k []);apply qt (beq_iff_eq.2 hb2);apply zV 2;apply qT;apply iR;apply aR;apply aR;apply iR;apply aR;refine fe (n:=((k:Nat):Int)) (.inr rfl) kq ?_
 rotate_left
 iterate 3 kernel_rfl
 apply qf (beq_eq_false_iff_ne.2 hb2);apply qk;apply ag;apply ab;apply zZ (mT [] [5,16]) id;apply qo;refine qy (aA (a:=((k:Nat):Int)) (b:=1) kq oq oq) ?_ ?_ ?_;apply qr 1;apply qe;refine ab ⟨k+1,?_,?_,(fg kq kq az zq)⟩
 . omega
 . refine ⟨by omega,fun i hi=>?_⟩;rcases Nat.lt_succ_iff_lt_or_eq.1 hi with h|h
   . exact ha i h
   . subst h;assumption
 iterate 19 kernel_rfl
 apply qf (decide_eq_false hb1);refine aK 0 kq kq ?_;apply ac;apply ac;apply au;apply ab;refine zZ (fun _=>[]) (fun _=>[]) ?_ ?_;apply zV 1;apply qT;refine fe (n:=(-1)) (.inr rfl) kq ?_
 rotate_left
 iterate 15 kernel_rfl
 all_goals
  first|exact oS oq ha aq|exact oC (fun i hi=>ha i oq)
noncomputable def RV:Code:=aF Tryz.f149
theorem kh (l:List (List UInt8)) (s:List UInt8) (hn:l.length<1000000000):af cx 149 [.imm (l.map aa.str),.str s] (.bool (l.contains s)):=by
 refine am (cx:=cx) 9 0 [(ResultVar.tmp 4)] Tryz.func149 rfl rfl rfl rfl rfl zq ?_;show wpA cx 9 0 (at_ RV []) _ _ _;refine zZ (fun _=>[(0,.imm (l.map aa.str)),(1,.str s)]) (fun _=>[]) ?_ ?_;refine zW 1 (fun _=>[(0,.imm (l.map aa.str)),(1,.str s)]) (fun _=>[]) ?_ ?_;apply zV 2;refine qP (vh l s (by first|omega|(simp;omega))) aY aY aY kq ?_;apply qX 2;refine aJ (b:=(decide ((bQ l s) >= 0))) (.inr rfl) kq ?_
 . exact i6 l s
 iterate 4 kernel_rfl
noncomputable def RO:Code:=aF Tryz.f139
theorem I5 {p:Prop} (h:p:=by first|omega|exact hz _):p:=h
theorem x6 (t:Tb) (w:Ty) (hc:t.cols.length<1000000000) (hz:∀ n,(bV t.cols n).type.sz<100000000):af cx 139 [Tb.v t,Ty.v w] (.bool (tgt t w)):=by
 refine am (cx:=cx) 28 0 [(ResultVar.tmp 4)] Tryz.func139 rfl rfl rfl rfl rfl zq ?_;show wpA cx 28 0 (at_ RO []) _ _ _;refine zZ (fun _=>[(0,Tb.v t),(1,Ty.v w)]) (fun _=>[]) ?_ ?_;apply zW 3 (mT [(2,.ptr 0 0),(3,.ptr 1 0)] [0,1]) (mH [] [.box (Tb.cs t),w.bx]);apply ao;apply zV 2;refine qy (aw (l:=t.key) (enc:=aa.str) kq bf) ?_ ?_ ?_;apply zR 1 (mU [(10,.bool (((t.key.length:Nat):Int) != 1))]) id;by_cases hb1:((t.key.length:Nat):Int)=1;refine qf (x:=(((t.key.length:Nat):Int) != 1)) (bne_eq_false_iff_eq.2 hb1) ?_ ?_;apply qK;apply zZ (mT [] [10]) id;apply ao;refine zD cxM kq aj ?_;apply qu 4;refine qd (av (k:=.i64) (l:=t.key) (enc:=aa.str) (i:=0) [] kq bf ty9 (fun _=>rfl) I5 I5) ?_ ?_ ?_ ?_;apply qu 1;refine qQ (jL t.cols (t.key.getD 0 []) I5) aY aY aY kq ?_;apply qu 6;refine bh kq ⟨kq,?_⟩;refine zE (fun _=>[(3,.ptr 1 0),(5,.ptr 2 0),(6,.bool (bt t.cols (t.key.getD 0 [])))]) (fun _=>[.box (Tb.cs t),w.bx,.box [.str (bV t.cols (t.key.getD 0 [])).name,.int .i64 ((bV t.cols (t.key.getD 0 [])).type.kind),.str (bV t.cols (t.key.getD 0 [])).type.name,.int .i64 ((bV t.cols (t.key.getD 0 [])).type.n),.imm ((bV t.cols (t.key.getD 0 [])).type.names.map aa.str),.imm ((bV t.cols (t.key.getD 0 [])).type.kids.map Ty.enc)]]) ?_ ?_;apply zV 2;by_cases hb2:(bt t.cols (t.key.getD 0 []))=true;apply zm [6,21,22] (hb2);apply qr 3;refine qP (pd ((bV t.cols (t.key.getD 0 [])).type) w I5) aY aY aY kq ?_;apply qX 2;refine aJ (b:=(((bV t.cols (t.key.getD 0 [])).type).beq w)) (.inr rfl) kq ?_
 rotate_left
 iterate 3 kernel_rfl
 apply zm [6,21,22] (Bool.eq_false_iff.2 hb2);apply qX 6;refine aJ (b:=false) (.inr rfl) kq ?_
 rotate_left
 iterate 14 kernel_rfl
 refine qt (x:=(((t.key.length:Nat):Int) != 1)) (bne_iff_ne.2 hb1) ?_ ?_;apply zV 1;apply qT;apply aR;refine aJ (b:=false) (.inr rfl) kq ?_
 rotate_left
 iterate 10 kernel_rfl
 all_goals
  first|(rw [KH aq];done)|(rw [J4 aq aq];done)|(rw [BT aq aq];done)|(rw [BT aq aq];assumption)
end Go.Proofs.YtcpklndelobigaaGreatDoor
