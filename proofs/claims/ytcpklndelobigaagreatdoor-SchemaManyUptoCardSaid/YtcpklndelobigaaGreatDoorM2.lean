/- What the finder says of one table: columns, key, references. Conditions: sizes that can be had; what the lexer, Storable and Valid answer for its parts. -/
import Derived.Test.YtcpklndelobigaaGreatDoorM1
set_option linter.all false
namespace Go.Proofs.YtcpklndelobigaaGreatDoor
open Go.Proofs.YtcpklndelobigaaGreatDoor.Abs
set_option maxRecDepth 20000
set_option maxHeartbeats 4000000
theorem bX (sums:List Sm) (M:Tm_) (s:BP) (doc:List UInt8) (d:Dc) (w:List (List UInt8)) (hb:s.2.length<1000000) (hn:d.name.length<1000000000) (hna:-1000000000000≤d.na∧d.na≤1000000000000):aL cx 25 [.ptr 0 0,.str doc,Dc.v d,.full (w.map .str)] (hpF sums M s) (fun v h=>v=.tup []∧h=hpF sums M (ak doc d w s)):=by
 refine me ?_
 have:=rY sums M s doc d w hb hn hna
 simpa [aZ,cW,aO,aa.frz,aa.owns] using this
def bP (n:List UInt8) (b:Bool) (s:BP):BP:=(bh n b s.1,s.2)
theorem wH {a b:Nat} (h:((b:Nat):Int) > ((a:Nat):Int)):Nat.blt a b=true:=by rw [Nat.blt_eq];omega
theorem vV {a b:Nat} (h:¬ ((b:Nat):Int) > ((a:Nat):Int)):Nat.blt a b=false:=by
 cases e:Nat.blt a b with
 | false=>rfl
 | true=>rw [Nat.blt_eq] at e;omega
theorem so {α:Type} (p:α→Bool) (d:α):∀ (l:List α) (k:Nat),k<l.length→(∀ i,i<k→p (l.getD i d)=false)→p (l.getD k d)=true→l.find? p=some (l.getD k d)
 | [],k,h,_,_=>by simp at h
 | x::l,0,_,_,hp=>by simp at hp;simp [List.find?,hp]
 | x::l,k+1,h,ha,hp=>by
  have h0:=ha 0 oq
  simp at h0
  have:=so p d l k (by simpa using h) (fun i hi=>by have:=ha (i+1) oq;simpa using this) (by simpa using hp)
  simp only [List.find?,h0]
  rw [this];simp
theorem yy {α:Type} (p:α→Bool) (d:α) (l:List α) (ha:∀ i,i<l.length→p (l.getD i d)=false):l.find? p=none:=by
 rw [List.find?_eq_none]
 intro x hx
 obtain ⟨i,hi,rfl⟩:=List.getElem_of_mem hx
 have:=ha i hi
 rw [List.getD_eq_getElem?_getD,List.getElem?_eq_getElem hi] at this
 simpa using this
theorem yV {l:List Co} {n:List UInt8} {k:Nat} (hk:k<l.length) (ha:∀ i,i<k→¬ (l.getD i Co.zero).name=n) (h:(l.getD k Co.zero).name=n):au l n=l.getD k Co.zero∧bc l n=true:=by
 have:=so (fun t:Co=>t.name==n) Co.zero l k hk (fun i hi=>by simpa using ha i hi) (by simpa using h)
 unfold au bc;rw [this];exact ⟨rfl,rfl⟩
theorem yR {l:List Co} {n:List UInt8} (ha:∀ i,i<l.length→¬ (l.getD i Co.zero).name=n):au l n=Co.zero∧bc l n=false:=by
 have:=yy (fun t:Co=>t.name==n) Co.zero l (fun i hi=>by simpa using ha i hi)
 unfold au bc;rw [this];exact ⟨rfl,rfl⟩
def ba (l:List Co):Nat→List (List UInt8×Bool)
 | 0=>[]
 | i+1=>bh (l.getD i Co.zero).name true (ba l i)
theorem rx (l:List Co) (i:Nat) (h:i<l.length) (n:List UInt8):bc (l.take (i+1)) n=(bc (l.take i) n || ((l.getD i Co.zero).name==n)):=by
 unfold bc;rw [bZ l Co.zero i h,List.find?_append]
 cases (l.take i).find? _ with
 | some x=>rfl
 | none =>
  generalize l.getD i Co.zero=c
  cases e:c.name==n <;> simp [List.find?,e]
theorem j7 (l:List Co) (n:List UInt8):∀ i,i≤l.length→aF (ba l i) n=bc (l.take i) n
 | 0,_=>rfl
 | i+1,h=>by
  rw [ba,d3,j7 l n i oq,rx l i oq]
  by_cases e:n=(l.getD i Co.zero).name
  · rw [if_pos e,e];simp
  · rw [if_neg e,show ((l.getD i Co.zero).name==n)=false by simpa using fun q=>e q.symm,Bool.or_false]
section
variable {low:List UInt8→Bool} {sto:Ty→Bool} {fst:List UInt8→Option Tb} {doc:List UInt8} {d:Dc} {s:BP} {i:Nat}
theorem j5 {b c:Bool} (hb:mv low d i=b) (hc:sto (d.tab.cols.getD i Co.zero).type=c):aP low sto doc d (i+1) s=(bif c then (bif b then aV d.name (aP low sto doc d i s) else aP low sto doc d i s) else ak doc d [(d.tab.cols.getD i Co.zero).name] (bif b then aV d.name (aP low sto doc d i s) else aP low sto doc d i s)):=by
 rw [aP,hb,hc]
theorem vP (h:¬ low (d.tab.cols.getD i Co.zero).name=true):mv low d i=true:=by unfold mv;rw [Bool.eq_false_iff.2 h];rfl
theorem vH (hi:i<d.tab.cols.length) (h:low (d.tab.cols.getD i Co.zero).name=true) (hs:aF (ba d.tab.cols i) (d.tab.cols.getD i Co.zero).name=true):mv low d i=true:=by
 unfold mv;rw [h,← j7 _ _ _ (Nat.le_of_lt hi),hs];rfl
theorem ve (hi:i<d.tab.cols.length) (h:low (d.tab.cols.getD i Co.zero).name=true) (hs:¬ aF (ba d.tab.cols i) (d.tab.cols.getD i Co.zero).name=true):mv low d i=false:=by
 unfold mv;rw [h,← j7 _ _ _ (Nat.le_of_lt hi),Bool.eq_false_iff.2 hs];rfl
theorem ls (low:List UInt8→Bool) (sto:Ty→Bool) (doc:List UInt8) (d:Dc) (s:BP):∀ i,(aP low sto doc d i s).2.length≤s.2.length+i
 | 0=>Nat.le_refl _
 | i+1=>by
  have:=ls low sto doc d s i
  rw [aP]
  cases mv low d i <;> cases sto (d.tab.cols.getD i Co.zero).type <;> simp [aV,ak] <;> omega
theorem nz {b c:Bool} (hb:bc d.tab.cols (d.tab.key.getD i [])=b) (hc:(d.tab.key.take i).contains (d.tab.key.getD i [])=c):bo doc d (i+1) s=(bif c then ak doc d [d.tab.key.getD i []] (bif b then bo doc d i s else aV d.name (bo doc d i s)) else (bif b then bo doc d i s else aV d.name (bo doc d i s))):=by
 rw [bo,hb,hc]
theorem lA (doc:List UInt8) (d:Dc) (s:BP):∀ i,(bo doc d i s).2.length≤s.2.length+i
 | 0=>Nat.le_refl _
 | i+1=>by
  have:=lA doc d s i
  rw [bo]
  cases bc d.tab.cols (d.tab.key.getD i []) <;> cases (d.tab.key.take i).contains (d.tab.key.getD i []) <;> simp [aV,ak] <;> omega
theorem mc {c:Bool} (hc:dW fst d.tab i=c):aH fst doc d (i+1) s=(bif c then ak doc d [(d.tab.refs.getD i Rf.zero).col,(d.tab.refs.getD i Rf.zero).tab] (bP d.name (aF (aH fst doc d i s).1 d.name || bM fst d i) (aH fst doc d i s)) else bP d.name (aF (aH fst doc d i s).1 d.name || bM fst d i) (aH fst doc d i s)):=by
 rw [aH,hc];rfl
theorem l4 (fst:List UInt8→Option Tb) (doc:List UInt8) (d:Dc) (s:BP):∀ i,(aH fst doc d i s).2.length≤s.2.length+i
 | 0=>Nat.le_refl _
 | i+1=>by
  have:=l4 fst doc d s i
  rw [aH]
  cases dW fst d.tab i <;> simp [ak] <;> omega
end
theorem pX {t:Tb} (h:((t.key.length:Nat):Int)<1):aj t=true:=by
 unfold aj;rw [show Nat.blt t.key.length 1=true by rw [Nat.blt_eq];omega];rfl
theorem p8 {t:Tb} (h:((t.key.length:Nat):Int) > 3):aj t=true:=by
 unfold aj;rw [show Nat.blt 3 t.key.length=true by rw [Nat.blt_eq];omega,Bool.or_true]
theorem qx {t:Tb} (h:¬ ((t.key.length:Nat):Int)<1) (h2:¬ ((t.key.length:Nat):Int) > 3):aj t=false:=by
 unfold aj;rw [show Nat.blt t.key.length 1=false from Bool.eq_false_iff.2 (by rw [Ne,Nat.blt_eq];omega),show Nat.blt 3 t.key.length=false from Bool.eq_false_iff.2 (by rw [Ne,Nat.blt_eq];omega)];rfl
theorem yL {t:Tb} {w:Ty} (h:¬ ((t.key.length:Nat):Int)=1):tgt t w=false:=by
 unfold tgt;rw [show Nat.beq t.key.length 1=false from Bool.eq_false_iff.2 (by rw [Ne,Nat.beq_eq];omega)];rfl
theorem yQ {t:Tb} {w:Ty} (h:((t.key.length:Nat):Int)=1) (h2:¬ bc t.cols (t.key.getD 0 [])=true):tgt t w=false:=by
 unfold tgt;rw [Bool.eq_false_iff.2 h2,Bool.false_and,Bool.and_false]
theorem sX {t:Tb} {w:Ty} (h:((t.key.length:Nat):Int)=1) (h2:bc t.cols (t.key.getD 0 [])=true):tgt t w=(au t.cols (t.key.getD 0 [])).type.beq w:=by
 unfold tgt;rw [h2,show Nat.beq t.key.length 1=true by rw [Nat.beq_eq];omega];rfl
noncomputable def CM:Code:=aT Tryz.f121
theorem pi (t:Co) :ao cx 121 [Co.v t] (.str t.name):=by
 refine aC (cx:=cx) 5 0 [(ResultVar.tmp 2)] Tryz.func121 rfl rfl rfl rfl rfl zq ?_
 show wpA cx 5 0 (at_ CM []) _ _ _
 refine qZ [(0,Co.v t)] [] ?_ ?_
 refine qW 2 [(1,.ptr 0 0)] [.box [.str t.name,.int .i64 (t.type.kind),.str t.type.name,.int .i64 (t.type.n),.imm (t.type.names.map aa.str),.imm (t.type.kids.map Ty.enc)]] ?_ ?_
 refine qU 3 [(2,.str t.name)] ?_ ?_
 refine cK kq ?_
 refine A2 (s:=t.name) (.inr rfl) kq ?_
 · rfl
 iterate 3 kernel_rfl
noncomputable def C4:Code:=aT Tryz.f129
theorem lO {p:Prop} (h:p:=by simp [Ty.v,Ex.v,Ct.v,Co.v,Rf.v,Sm.v,Tb.v_cs,Sc.v,Md.v,Pb.v,Ls.v,-List.map_take,-List.map_drop,-List.map_append]):p:=h
theorem fW (l:List Co) (n:List UInt8) (hn:l.length<1000000000):ao cx 129 [.imm (l.map Co.v),.fn (.func 121) [] [],.str n] (.tup [Co.v (au l n),.bool (bc l n)]):=by
 refine aC (cx:=cx) 25 0 [(ResultVar.cell 6 45),(ResultVar.tmp 7)] Tryz.func129 rfl rfl rfl rfl rfl zq ?_
 show wpA cx 25 0 (at_ C4 []) _ _ _
 refine qZ [(0,.imm (l.map Co.v)),(1,.fn (.func 121) [] []),(2,.str n)] [] ?_ ?_
 refine qW 2 [(0,.imm (l.map Co.v)),(1,.fn (.func 121) [] []),(2,.str n),(6,.ptr 0 0)] [.box [.str [],.int .i64 0,.str [],.int .i64 0,.full [],.full []]] ?_ ?_
 refine az ?_ ?_
 refine qV 1 ?_ ?_
 refine qy (aw (l:=l) (enc:=Co.v) kq fv) ?_ ?_ ?_
 refine qR 1 [(1,.fn (.func 121) [] []),(2,.str n),(6,.ptr 0 0),(11,.imm (l.map Co.v)),(12,nI l.length),(13,.int .i64 0)] [.box [.str [],.int .i64 0,.str [],.int .i64 0,.full [],.full []]] ?_ ?_
 refine qB 0 ?_ ?_ ?_
 refine bn (σ:=Nat) (fun k=>[(1,.fn (.func 121) [] []),(2,.str n),(6,.ptr 0 0),(11,.imm (l.map Co.v)),(12,.int .i64 ((l.length:Nat):Int)),(13,.int .i64 ((k:Nat):Int))]) (fun k=>[.box [.str [],.int .i64 0,.str [],.int .i64 0,.full [],.full []]]) (fun k=>k≤l.length∧∀ i,i<k→¬ (l.getD i Co.zero).name=n) (fun k=>l.length - k) 0 kq (by exact ⟨Nat.zero_le _,fun i h=>absurd h (Nat.not_lt_zero i)⟩) ⟨⟨kq,kq,kq,kq,kq,kq,trivial⟩,by simp [aG,aa.bel],by simp,kq,by simp [ai.belO,aa.bel,av]⟩ ?_
 rintro k ⟨hk,ha⟩
 refine qW 1 [(1,.fn (.func 121) [] []),(2,.str n),(6,.ptr 0 0),(11,.imm (l.map Co.v)),(12,nI l.length),(13,nI k),(14,.bool (decide (((k:Nat):Int)<((l.length:Nat):Int))))] [.box [.str [],.int .i64 0,.str [],.int .i64 0,.full [],.full []]] ?_ ?_
 refine az ?_ ?_
 by_cases hb1:((k:Nat):Int)<((l.length:Nat):Int)
 refine qt (decide_eq_true hb1) ?_ ?_
 refine qK ?_ ?_
 refine qz [(1,.fn (.func 121) [] []),(2,.str n),(6,.ptr 0 0),(11,.imm (l.map Co.v)),(12,nI l.length),(13,nI k)] ?_ ?_
 refine az ?_ ?_
 refine qB 1 ?_ ?_ ?_
 refine qO ?_ ?_
 refine qy ((aA (k:=.i64) (l:=l) (enc:=Co.v) (i:=((k:Nat):Int)) Co.zero kq fv kQ (fun _=>rfl) oq oq).trans (congrArg (fun cs=>some (aa.pimm cs 0,_)) (dm (l.getD k Co.zero)))) ?_ ?_ ?_
 refine qR 3 [(1,.fn (.func 121) [] []),(2,.str n),(6,.ptr 0 0),(9,.ptr 1 0),(11,.imm (l.map Co.v)),(12,nI l.length),(13,nI k)] [.box [.str [],.int .i64 0,.str [],.int .i64 0,.full [],.full []],.box [.str (l.getD k Co.zero).name,.int .i64 ((l.getD k Co.zero).type.kind),.str (l.getD k Co.zero).type.name,.int .i64 ((l.getD k Co.zero).type.n),.imm ((l.getD k Co.zero).type.names.map aa.str),.imm ((l.getD k Co.zero).type.kids.map Ty.enc)]] ?_ ?_
 refine qV 2 ?_ ?_
 refine bj (args:=[.agg [.str (l.getD k Co.zero).name,.int .i64 ((l.getD k Co.zero).type.kind),.str (l.getD k Co.zero).type.name,.int .i64 ((l.getD k Co.zero).type.n),.imm ((l.getD k Co.zero).type.names.map aa.str),.imm ((l.getD k Co.zero).type.kids.map Ty.enc)]]) kq kq kq kq (pi (l.getD k Co.zero)) lO lO lO ?_
 refine qR 2 [(1,.fn (.func 121) [] []),(2,.str n),(6,.ptr 0 0),(9,.ptr 1 0),(11,.imm (l.map Co.v)),(12,nI l.length),(13,nI k),(21,.bool ((l.getD k Co.zero).name==n))] [.box [.str [],.int .i64 0,.str [],.int .i64 0,.full [],.full []],.box [.str (l.getD k Co.zero).name,.int .i64 ((l.getD k Co.zero).type.kind),.str (l.getD k Co.zero).type.name,.int .i64 ((l.getD k Co.zero).type.n),.imm ((l.getD k Co.zero).type.names.map aa.str),.imm ((l.getD k Co.zero).type.kids.map Ty.enc)]] ?_ ?_
 by_cases hb2:(l.getD k Co.zero).name=n
 refine qt (beq_iff_eq.2 hb2) ?_ ?_
 refine qW 3 [(6,.ptr 0 0),(7,.bool true)] [.box [.str (l.getD k Co.zero).name,.int .i64 ((l.getD k Co.zero).type.kind),.str (l.getD k Co.zero).type.name,.int .i64 ((l.getD k Co.zero).type.n),.imm ((l.getD k Co.zero).type.names.map aa.str),.imm ((l.getD k Co.zero).type.kids.map Ty.enc)],.box [.str (l.getD k Co.zero).name,.int .i64 ((l.getD k Co.zero).type.kind),.str (l.getD k Co.zero).type.name,.int .i64 ((l.getD k Co.zero).type.n),.imm ((l.getD k Co.zero).type.names.map aa.str),.imm ((l.getD k Co.zero).type.kids.map Ty.enc)]] ?_ ?_
 refine cK kq ?_
 apply iR
 apply aR
 apply aR
 apply iR
 apply aR
 refine gH (l:=[.agg [.str (l.getD k Co.zero).name,.int .i64 ((l.getD k Co.zero).type.kind),.str (l.getD k Co.zero).type.name,.int .i64 ((l.getD k Co.zero).type.n),.imm ((l.getD k Co.zero).type.names.map aa.str),.imm ((l.getD k Co.zero).type.kids.map Ty.enc)],.bool true]) (.inr rfl) kq ?_
 rotate_left
 iterate 2 kernel_rfl
 refine qf (beq_eq_false_iff_ne.2 hb2) ?_ ?_
 refine qk ?_ ?_
 refine ah ?_
 refine ab ?_
 refine qz [(1,.fn (.func 121) [] []),(2,.str n),(6,.ptr 0 0),(11,.imm (l.map Co.v)),(12,nI l.length),(13,nI k)] ?_ ?_
 refine qo ?_ ?_
 refine qy (aI (a:=((k:Nat):Int)) (b:=1) kq oq oq) ?_ ?_ ?_
 refine qr 1 ?_ ?_
 refine qe ?_ ?_
 refine ab ⟨k+1,?_,?_,⟨⟨kq,kq,kq,kq,kq,kq,trivial⟩,by simp [aG,aa.bel],by simp,kq,by simp [ai.belO,aa.bel,av]⟩⟩
 · omega
 · refine ⟨by omega,fun i hi=>?_⟩
   rcases Nat.lt_succ_iff_lt_or_eq.1 hi with h|h
   · exact ha i h
   · subst h;assumption
 iterate 20 kernel_rfl
 refine qf (decide_eq_false hb1) ?_ ?_
 refine a6 0 kq kq ?_
 refine af ?_
 refine af ?_
 refine aE ?_
 refine ab ?_
 refine qz [(6,.ptr 0 0)] ?_ ?_
 refine qW 1 [(6,.ptr 0 0),(10,.ptr 1 0)] [.box [.str [],.int .i64 0,.str [],.int .i64 0,.full [],.full []],.box [.str [],.int .i64 0,.str [],.int .i64 0,.full [],.full []]] ?_ ?_
 refine qU 3 [(6,.ptr 0 0),(7,.bool false)] ?_ ?_
 refine cK kq ?_
 refine gH (l:=[.agg [.str [],.int .i64 0,.str [],.int .i64 0,.full [],.full []],.bool false]) (.inr rfl) kq ?_
 rotate_left
 iterate 15 kernel_rfl
 all_goals
  first|(rw [(yV (l:=l) (n:=n) (k:=k) oq ha aq).1,(yV (l:=l) (n:=n) (k:=k) oq ha aq).2];simp [a8,aa.frz,aZ,Co.v];done)|(rw [(yR (l:=l) (n:=n) (fun i hi=>ha i oq)).1,(yR (l:=l) (n:=n) (fun i hi=>ha i oq)).2];simp [a8,aa.frz,aZ,Co.v,Co.zero,Ty.zero,Ty.kind,Ty.name,Ty.n,Ty.names,Ty.kids];done)
def aS (l:List (List UInt8)) (s:List UInt8):Int:=match l.findIdx? (·==s) with
 | some i=>(i:Nat)
 | none=>-1
theorem nt {l:List (List UInt8)} {s:List UInt8} {k:Nat} (hk:k<l.length) (ha:∀ i,i<k→¬ s=l.getD i []) (h:s=l.getD k []):((k:Nat):Int)=aS l s:=by
 have e:∀ i (h:i<l.length),l.getD i []=l[i]:=fun i h=>by rw [List.getD_eq_getElem?_getD,List.getElem?_eq_getElem h];rfl
 have:l.findIdx? (·==s)=some k:=by
  rw [List.findIdx?_eq_some_iff_getElem]
  refine ⟨hk,by rw [← e k hk,← h];simp,fun j hj=>?_⟩
  have:=ha j hj
  rw [e j oq] at this
  simpa using fun h=>this h.symm
 simp [aS,this]
theorem nr {l:List (List UInt8)} {s:List UInt8} (ha:∀ i,i<l.length→¬ s=l.getD i []):-1=aS l s:=by
 have:l.findIdx? (·==s)=none:=by
  rw [List.findIdx?_eq_none_iff]
  intro x hx
  obtain ⟨i,hi,rfl⟩:=List.getElem_of_mem hx
  have:=ha i hi
  rw [List.getD_eq_getElem?_getD,List.getElem?_eq_getElem hi] at this
  simpa using fun h:l[i]=s=>this h.symm
 simp [aS,this]
theorem fw (l:List (List UInt8)) (s:List UInt8):decide (aS l s ≥ 0)=l.contains s:=by
 rw [Bool.eq_iff_iff]
 simp only [decide_eq_true_eq,List.contains_iff_mem]
 unfold aS
 split
 · rename_i i hi
   obtain ⟨h1,h2,_⟩:=List.findIdx?_eq_some_iff_getElem.1 hi
   simp at h2
   exact ⟨fun _=>h2▸List.getElem_mem h1,fun _=>by omega⟩
 · rename_i hi
   rw [List.findIdx?_eq_none_iff] at hi
   exact ⟨fun h=>by omega,fun h=>by have:=hi s h;simp at this⟩
noncomputable def C1:Code:=aT Tryz.f207
theorem n9 (l:List (List UInt8)) (s:List UInt8) (hn:l.length<1000000000):ao cx 207 [.imm (l.map aa.str),.str s] (.int .i64 (aS l s)):=by
 refine aC (cx:=cx) 19 0 [(ResultVar.tmp 4)] Tryz.func207 rfl rfl rfl rfl rfl zq ?_
 show wpA cx 19 0 (at_ C1 []) _ _ _
 refine qZ [(0,.imm (l.map aa.str)),(1,.str s)] [] ?_ ?_
 refine qU 1 [(0,.imm (l.map aa.str)),(1,.str s)] ?_ ?_
 refine az ?_ ?_
 refine qV 1 ?_ ?_
 refine qy (aw (l:=l) (enc:=aa.str) kq b5) ?_ ?_ ?_
 refine qR 1 [(0,.imm (l.map aa.str)),(1,.str s),(7,nI l.length),(8,.int .i64 0)] [] ?_ ?_
 refine qB 0 ?_ ?_ ?_
 refine bn (σ:=Nat) (fun k=>[(0,.imm (l.map aa.str)),(1,.str s),(7,.int .i64 ((l.length:Nat):Int)),(8,.int .i64 ((k:Nat):Int))]) (fun k=>[]) (fun k=>k≤l.length∧∀ i,i<k→¬ s=l.getD i []) (fun k=>l.length - k) 0 kq zq ⟨⟨kq,kq,kq,kq,trivial⟩,by simp [aG,aa.bel],by simp,kq,by simp⟩ ?_
 rintro k ⟨hk,ha⟩
 refine qW 1 [(0,.imm (l.map aa.str)),(1,.str s),(7,nI l.length),(8,nI k),(9,.bool (decide (((k:Nat):Int)<((l.length:Nat):Int))))] [] ?_ ?_
 refine az ?_ ?_
 by_cases hb1:((k:Nat):Int)<((l.length:Nat):Int)
 refine qt (decide_eq_true hb1) ?_ ?_
 refine qK ?_ ?_
 refine qz [(0,.imm (l.map aa.str)),(1,.str s),(7,nI l.length),(8,nI k)] ?_ ?_
 refine az ?_ ?_
 refine qB 1 ?_ ?_ ?_
 refine qU 2 [(0,.imm (l.map aa.str)),(1,.str s),(5,nI k),(7,nI l.length),(8,nI k)] ?_ ?_
 refine qV 3 ?_ ?_
 refine qy (aA (k:=.i64) (l:=l) (enc:=aa.str) (i:=((k:Nat):Int)) [] kq b5 ty9 (fun _=>rfl) oq oq) ?_ ?_ ?_
 refine qR 2 [(0,.imm (l.map aa.str)),(1,.str s),(5,nI k),(7,nI l.length),(8,nI k),(16,.bool (s==(l.getD k [])))] [] ?_ ?_
 by_cases hb2:s=(l.getD k [])
 refine qt (beq_iff_eq.2 hb2) ?_ ?_
 refine qV 2 ?_ ?_
 refine qT ?_ ?_
 apply iR
 apply aR
 apply aR
 apply iR
 apply aR
 refine gp (n:=((k:Nat):Int)) (.inr rfl) kq ?_
 rotate_left
 iterate 3 kernel_rfl
 refine qf (beq_eq_false_iff_ne.2 hb2) ?_ ?_
 refine qk ?_ ?_
 refine ah ?_
 refine ab ?_
 refine qz [(0,.imm (l.map aa.str)),(1,.str s),(7,nI l.length),(8,nI k)] ?_ ?_
 refine qo ?_ ?_
 refine qy (aI (a:=((k:Nat):Int)) (b:=1) kq oq oq) ?_ ?_ ?_
 refine qr 1 ?_ ?_
 refine qe ?_ ?_
 refine ab ⟨k+1,?_,?_,⟨⟨kq,kq,kq,kq,trivial⟩,by simp [aG,aa.bel],by simp,kq,by simp⟩⟩
 · omega
 · refine ⟨by omega,fun i hi=>?_⟩
   rcases Nat.lt_succ_iff_lt_or_eq.1 hi with h|h
   · exact ha i h
   · subst h;assumption
 iterate 19 kernel_rfl
 refine qf (decide_eq_false hb1) ?_ ?_
 refine a6 0 kq kq ?_
 refine af ?_
 refine af ?_
 refine aE ?_
 refine ab ?_
 refine qz [] ?_ ?_
 refine qV 1 ?_ ?_
 refine qT ?_ ?_
 refine gp (n:=(-1)) (.inr rfl) kq ?_
 rotate_left
 iterate 15 kernel_rfl
 all_goals
  first|exact nt oq ha aq|exact nr (fun i hi=>ha i oq)
noncomputable def CX:Code:=aT Tryz.f149
theorem gj (l:List (List UInt8)) (s:List UInt8) (hn:l.length<1000000000):ao cx 149 [.imm (l.map aa.str),.str s] (.bool (l.contains s)):=by
 refine aC (cx:=cx) 9 0 [(ResultVar.tmp 4)] Tryz.func149 rfl rfl rfl rfl rfl zq ?_
 show wpA cx 9 0 (at_ CX []) _ _ _
 refine qZ [(0,.imm (l.map aa.str)),(1,.str s)] [] ?_ ?_
 refine qU 1 [(0,.imm (l.map aa.str)),(1,.str s)] ?_ ?_
 refine qV 2 ?_ ?_
 refine bj (args:=[.imm (l.map aa.str),.str s]) kq kq kq kq (n9 l s oq) lO lO lO ?_
 refine qX 2 ?_ ?_
 refine a7 (b:=(decide ((aS l s) ≥ 0))) (.inr rfl) kq ?_
 · exact fw l s
 iterate 4 kernel_rfl
noncomputable def C3:Code:=aT Tryz.f139
theorem pF (t:Tb) (w:Ty) (hc:t.cols.length<1000000000) (hz:∀ n,(au t.cols n).type.sz<100000000):ao cx 139 [Tb.v t,Ty.v w] (.bool (tgt t w)):=by
 refine aC (cx:=cx) 28 0 [(ResultVar.tmp 4)] Tryz.func139 rfl rfl rfl rfl rfl zq ?_
 show wpA cx 28 0 (at_ C3 []) _ _ _
 refine qZ [(0,Tb.v t),(1,Ty.v w)] [] ?_ ?_
 refine qW 3 [(2,.ptr 0 0),(3,.ptr 1 0)] [.box (Tb.cs t),w.bx] ?_ ?_
 refine az ?_ ?_
 refine qV 2 ?_ ?_
 refine qy (aw (l:=t.key) (enc:=aa.str) kq b5) ?_ ?_ ?_
 refine qR 1 [(2,.ptr 0 0),(3,.ptr 1 0),(10,.bool (((t.key.length:Nat):Int) != 1))] [.box (Tb.cs t),w.bx] ?_ ?_
 by_cases hb1:((t.key.length:Nat):Int)=1
 refine qf (x:=(((t.key.length:Nat):Int) != 1)) (bne_eq_false_iff_eq.2 hb1) ?_ ?_
 refine qK ?_ ?_
 refine qz [(2,.ptr 0 0),(3,.ptr 1 0)] ?_ ?_
 refine az ?_ ?_
 refine b6 cxM kq ap (aU ?_)
 refine qu 4 ?_ ?_
 refine qd (aA (k:=.i64) (l:=t.key) (enc:=aa.str) (i:=0) [] kq b5 ty9 (fun _=>rfl) oq oq) ?_ ?_ ?_ ?_
 refine qu 1 ?_ ?_
 refine cc (args:=[.imm (t.cols.map Co.v),.fn (.func 121) [] [],.str (t.key.getD 0 [])]) kq kq kq kq kq (fW t.cols (t.key.getD 0 []) oq) (by intro _;simp [Ty.v,Ex.v,Ct.v,Co.v,Rf.v,Sm.v,Tb.v_cs,Sc.v,Md.v,Pb.v,Ls.v,-List.map_take,-List.map_drop,-List.map_append]) lO lO ?_
 refine qu 6 ?_ ?_
 refine bG kq ⟨kq,?_⟩
 refine ab ?_
 refine qZ [(3,.ptr 1 0),(5,.ptr 2 0),(6,.bool (bc t.cols (t.key.getD 0 [])))] [.box (Tb.cs t),w.bx,.box [.str (au t.cols (t.key.getD 0 [])).name,.int .i64 ((au t.cols (t.key.getD 0 [])).type.kind),.str (au t.cols (t.key.getD 0 [])).type.name,.int .i64 ((au t.cols (t.key.getD 0 [])).type.n),.imm ((au t.cols (t.key.getD 0 [])).type.names.map aa.str),.imm ((au t.cols (t.key.getD 0 [])).type.kids.map Ty.enc)]] ?_ ?_
 refine qV 2 ?_ ?_
 by_cases hb2:(bc t.cols (t.key.getD 0 []))=true
 refine qm [6,21,22] (hb2) ?_ ?_
 refine qr 3 ?_ ?_
 refine bj (args:=[.agg [.int .i64 ((au t.cols (t.key.getD 0 [])).type.kind),.str (au t.cols (t.key.getD 0 [])).type.name,.int .i64 ((au t.cols (t.key.getD 0 [])).type.n),.imm ((au t.cols (t.key.getD 0 [])).type.names.map aa.str),.imm ((au t.cols (t.key.getD 0 [])).type.kids.map Ty.enc)],.agg [.int .i64 (w.kind),.str w.name,.int .i64 (w.n),.imm (w.names.map aa.str),.imm (w.kids.map Ty.enc)]]) kq kq kq kq (pP ((au t.cols (t.key.getD 0 [])).type) w (hz _)) lO lO lO ?_
 refine qX 2 ?_ ?_
 refine a7 (b:=(((au t.cols (t.key.getD 0 [])).type).beq w)) (.inr rfl) kq ?_
 rotate_left
 iterate 3 kernel_rfl
 refine qm [6,21,22] (Bool.eq_false_iff.2 hb2) ?_ ?_
 refine qX 6 ?_ ?_
 refine a7 (b:=false) (.inr rfl) kq ?_
 rotate_left
 iterate 14 kernel_rfl
 refine qt (x:=(((t.key.length:Nat):Int) != 1)) (bne_iff_ne.2 hb1) ?_ ?_
 refine qV 1 ?_ ?_
 refine qT ?_ ?_
 apply aR
 refine a7 (b:=false) (.inr rfl) kq ?_
 rotate_left
 iterate 10 kernel_rfl
 all_goals
  first|(rw [yL aq];done)|(rw [yQ aq aq];done)|(rw [sX aq aq];done)|(rw [sX aq aq];assumption)
end Go.Proofs.YtcpklndelobigaaGreatDoor
