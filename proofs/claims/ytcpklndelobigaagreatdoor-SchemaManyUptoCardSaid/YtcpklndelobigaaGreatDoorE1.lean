/- Declarations, modules and problems as plain data; what From makes of them in the program's way and in the reference's, and that both are the same. No condition. -/
import Derived.Test.YtcpklndelobigaaGreatDoorCE
import Derived.Test.YtcpklndelobigaaGreatDoorAbsg
set_option linter.all false
namespace Go.Proofs.YtcpklndelobigaaGreatDoor
open Go.Proofs.YtcpklndelobigaaGreatDoor.Abs
structure Dc where
 kind:Int
 name:List UInt8
 sum:Sm
 tab:Tb
 na:Int
 pos:Int
 fin:Int
structure Md where
 name:List UInt8
 decls:List Dc
structure Pb where
 doc:List UInt8
 pos:Int
 fin:Int
 code:Int
 names:List (List UInt8)
def Dc.zero:Dc:=⟨0,[],Sm.zero,Tb.zero,0,0,0⟩
def Md.zero:Md:=⟨[],[]⟩
def Pb.zero:Pb:=⟨[],0,0,0,[]⟩
def au (l:List Co) (n:List UInt8):Co:=(l.find? (fun t=>t.name==n)).getD Co.zero
def bc (l:List Co) (n:List UInt8):Bool:=(l.find? (fun t=>t.name==n)).isSome
def aD (l:List Co) (n:List UInt8):Int:=match l.findIdx? (fun t=>t.name==n) with
 | some i=>(i:Nat)
 | none=>-1
theorem ia (l:List Co) (n:List UInt8):(aD l n<0∧bc l n=false)∨(0≤aD l n∧(aD l n).toNat<l.length∧bc l n=true∧l.getD (aD l n).toNat Co.zero=au l n):=by
 unfold aD bc au
 cases h:l.findIdx? (fun t=>t.name==n) with
 | none =>
  left
  rw [List.findIdx?_eq_none_iff] at h
  refine ⟨by decide,?_⟩
  rw [List.find?_eq_none.2 (fun x hx=>by simpa using h x hx)];rfl
 | some i =>
  right
  obtain ⟨h1,h2,h3⟩:=List.findIdx?_eq_some_iff_getElem.1 h
  have hf:l.find? (fun t=>t.name==n)=some l[i]:=by
   rw [List.find?_eq_some_iff_getElem]
   exact ⟨h2,i,h1,rfl,fun j hj=>by simpa using h3 j hj⟩
  have e:(((i:Nat):Int)).toNat=i:=Int.toNat_natCast i
  simp only [hf,e]
  exact ⟨by omega,h1,rfl,by rw [List.getD_eq_getElem?_getD,List.getElem?_eq_getElem h1]⟩
def tgt (t:Tb) (w:Ty):Bool:=(Nat.beq t.key.length 1) && (bc t.cols (t.key.getD 0 []) && (au t.cols (t.key.getD 0 [])).type.beq w)
abbrev Wr:=List (List (List UInt8))×Bool
def ar (b:Bool) (w:List (List UInt8)) (o:List (List (List UInt8))):List (List (List UInt8)):=bif b then o++[w] else o
section
variable (low:List UInt8→Bool) (sto:Ty→Bool) (chk:Ex→Bool) (fst:List UInt8→Option Tb)
def wrC (cols:List Co):Nat→Wr→Wr
 | 0,s=>s
 | i+1,s=>let s:=wrC cols i s;(ar (!sto (cols.getD i Co.zero).type) [(cols.getD i Co.zero).name] s.1,s.2 || (!low (cols.getD i Co.zero).name || bc (cols.take i) (cols.getD i Co.zero).name))
def wrK (t:Tb):Nat→Wr→Wr
 | 0,s=>s
 | i+1,s=>let s:=wrK t i s;(ar ((t.key.take i).contains (t.key.getD i [])) [t.key.getD i []] s.1,s.2 || !bc t.cols (t.key.getD i []))
def dW (t:Tb) (i:Nat):Bool:=(t.refs.take i).any (fun x=>x.col==(t.refs.getD i Rf.zero).col) || ((fst (t.refs.getD i Rf.zero).tab).isSome && (bc t.cols (t.refs.getD i Rf.zero).col && !tgt ((fst (t.refs.getD i Rf.zero).tab).getD Tb.zero) (au t.cols (t.refs.getD i Rf.zero).col).type))
def wrR (t:Tb):Nat→Wr→Wr
 | 0,s=>s
 | i+1,s=>let s:=wrR t i s;(ar (dW fst t i) [(t.refs.getD i Rf.zero).col,(t.refs.getD i Rf.zero).tab] s.1,s.2 || (!(fst (t.refs.getD i Rf.zero).tab).isSome || !bc t.cols (t.refs.getD i Rf.zero).col))
def aj (t:Tb):Bool:=Nat.blt t.key.length 1 || Nat.blt 3 t.key.length
def wr1 (d:Dc):Wr:=wrC low sto d.tab.cols d.tab.cols.length (ar (Nat.blt 8 d.tab.cols.length) [] [],!low d.name || !chk d.tab.chk)
def wr2 (d:Dc):Wr:=wrK d.tab d.tab.key.length (ar (aj d.tab) [] (wr1 low sto chk d).1,(wr1 low sto chk d).2)
def wr (d:Dc):Wr:=wrR fst d.tab d.tab.refs.length (wr2 low sto chk d)
end
abbrev BP:=List (List UInt8×Bool)×List Pb
def cS:Int:=8
def bg (doc:List UInt8) (d:Dc) (w:List (List UInt8)):Pb:=⟨doc,d.na,d.na+((d.name.length:Nat):Int),cS,w⟩
def aV (n:List UInt8) (s:BP):BP:=(bh n true s.1,s.2)
def ak (doc:List UInt8) (d:Dc) (w:List (List UInt8)) (s:BP):BP:=(bh d.name true s.1,s.2++[bg doc d w])
def aF (b:List (List UInt8×Bool)) (n:List UInt8):Bool:=(ag n b).getD false
section
variable (low:List UInt8→Bool) (sto:Ty→Bool) (chk:Ex→Bool) (fst:List UInt8→Option Tb) (doc:List UInt8) (d:Dc)
def mv (i:Nat):Bool:=!low (d.tab.cols.getD i Co.zero).name || bc (d.tab.cols.take i) (d.tab.cols.getD i Co.zero).name
def aP:Nat→BP→BP
 | 0,s=>s
 | i+1,s=>let s1:=(bif mv low d i then aV d.name (aP i s) else aP i s);bif sto (d.tab.cols.getD i Co.zero).type then s1 else ak doc d [(d.tab.cols.getD i Co.zero).name] s1
def bo:Nat→BP→BP
 | 0,s=>s
 | i+1,s=>let s1:=(bif bc d.tab.cols (d.tab.key.getD i []) then bo i s else aV d.name (bo i s));bif (d.tab.key.take i).contains (d.tab.key.getD i []) then ak doc d [d.tab.key.getD i []] s1 else s1
def bM (i:Nat):Bool:=!(fst (d.tab.refs.getD i Rf.zero).tab).isSome || !bc d.tab.cols (d.tab.refs.getD i Rf.zero).col
def aH:Nat→BP→BP
 | 0,s=>s
 | i+1,s=>let s0:=aH i s;let s1:BP:=(bh d.name (aF s0.1 d.name || bM fst d i) s0.1,s0.2);bif dW fst d.tab i then ak doc d [(d.tab.refs.getD i Rf.zero).col,(d.tab.refs.getD i Rf.zero).tab] s1 else s1
def bb (s:BP):BP:=aP low sto doc d d.tab.cols.length (bif Nat.blt 8 d.tab.cols.length then ak doc d [] s else s)
def bv (s:BP):BP:=bo doc d d.tab.key.length (bif aj d.tab then ak doc d [] s else s)
def b0 (s:BP):BP:=aH fst doc d d.tab.refs.length s
def de (s:BP):BP:=let s1:=b0 fst doc d (bv doc d (bb low sto doc d s));bif !low d.name || !chk d.tab.chk then aV d.name s1 else s1
end
theorem ip {α:Type} (k k':List UInt8) (v:α):∀ l:List (List UInt8×α),ag k (bh k' v l)=if k=k' then some v else ag k l
 | []=>by simp only [bh,ag]
 | p::l=>by
  by_cases h:k'=p.1
  · simp only [bh,if_pos h,ag]
    by_cases h2:k=k'
    · rw [if_pos h2,if_pos h2]
    · rw [if_neg h2,if_neg h2,if_neg (fun e=>h2 (e.trans h.symm))]
  · simp only [bh,if_neg h,ag]
    by_cases h2:k=p.1
    · rw [if_pos h2,if_pos h2,if_neg (fun e=>h (e.symm.trans h2))]
    · rw [if_neg h2,if_neg h2,ip k k' v l]
theorem d3 (k k':List UInt8) (v:Bool) (l):aF (bh k' v l) k=if k=k' then v else aF l k:=by
 unfold aF;rw [ip];split <;> rfl
def cR (doc:List UInt8) (d:Dc) (s0 s:BP) (w:List (List (List UInt8))) (o:Bool):Prop :=
 s.2=s0.2++w.map (bg doc d)∧∀ k,aF s.1 k=(aF s0.1 k || ((k==d.name) && (!w.isEmpty || o)))
theorem cR.bad {doc d s0 s w o} (h:cR doc d s0 s w o) (b:Bool):cR doc d s0 (bif b then aV d.name s else s) w (o || b):=by
 cases b with
 | false=>simpa using h
 | true =>
  refine ⟨h.1,fun k=>?_⟩
  simp only [cond_true,aV,d3]
  by_cases e:k=d.name
  · rw [if_pos e];simp [e]
  · rw [if_neg e,h.2 k,show (k==d.name)=false by simpa using e,Bool.false_and,Bool.false_and]
theorem cR.badN {doc d s0 s w o} (h:cR doc d s0 s w o) (b:Bool):cR doc d s0 (bif b then s else aV d.name s) w (o || !b):=by
 have:=h.bad (!b);cases b <;> simpa using this
theorem cR.set {doc d s0 s w o} (h:cR doc d s0 s w o) (b:Bool):cR doc d s0 (bh d.name (aF s.1 d.name || b) s.1,s.2) w (o || b):=by
 refine ⟨h.1,fun k=>?_⟩
 simp only [d3]
 by_cases e:k=d.name
 · rw [if_pos e,h.2 d.name];subst e;simp [Bool.or_assoc]
 · rw [if_neg e,h.2 k,show (k==d.name)=false by simpa using e,Bool.false_and,Bool.false_and]
theorem cR.rep {doc d s0 s w o} (h:cR doc d s0 s w o) (b:Bool) (x):cR doc d s0 (bif b then ak doc d x s else s) (ar b x w) o:=by
 cases b with
 | false=>simpa [ar] using h
 | true =>
  refine ⟨by simp [ak,ar,h.1],fun k=>?_⟩
  simp only [cond_true,ak,d3,ar]
  by_cases e:k=d.name
  · rw [if_pos e];simp [e]
  · rw [if_neg e,h.2 k,show (k==d.name)=false by simpa using e,Bool.false_and,Bool.false_and]
theorem cR.repN {doc d s0 s w o} (h:cR doc d s0 s w o) (b:Bool) (x):cR doc d s0 (bif b then s else ak doc d x s) (ar (!b) x w) o:=by
 have:=h.rep (!b) x;cases b <;> simpa using this
section
variable (low:List UInt8→Bool) (sto:Ty→Bool) (chk:Ex→Bool) (fst:List UInt8→Option Tb) (doc:List UInt8) (d:Dc)
theorem yE (e:Bool):∀ (cols:List Co) (i:Nat) (s:Wr),wrC low sto cols i (s.1,s.2 || e)=((wrC low sto cols i s).1,(wrC low sto cols i s).2 || e)
 | _,0,s=>rfl
 | cols,i+1,s=>by simp only [wrC,yE e cols i s,Bool.or_assoc,Bool.or_comm e]
theorem yC (e:Bool) (t:Tb):∀ (i:Nat) (s:Wr),wrK t i (s.1,s.2 || e)=((wrK t i s).1,(wrK t i s).2 || e)
 | 0,s=>rfl
 | i+1,s=>by simp only [wrK,yC e t i s,Bool.or_assoc,Bool.or_comm e]
theorem yM (e:Bool) (t:Tb):∀ (i:Nat) (s:Wr),wrR fst t i (s.1,s.2 || e)=((wrR fst t i s).1,(wrR fst t i s).2 || e)
 | 0,s=>rfl
 | i+1,s=>by simp only [wrR,yM e t i s,Bool.or_assoc,Bool.or_comm e]
theorem ni {s0 s w o} (h:cR doc d s0 s w o):∀ i,cR doc d s0 (aP low sto doc d i s) (wrC low sto d.tab.cols i (w,o)).1 (wrC low sto d.tab.cols i (w,o)).2
 | 0=>h
 | i+1=>((ni h i).bad (mv low d i)).repN _ _
theorem m6 {s0 s w o} (h:cR doc d s0 s w o):∀ i,cR doc d s0 (bo doc d i s) (wrK d.tab i (w,o)).1 (wrK d.tab i (w,o)).2
 | 0=>h
 | i+1=>((m6 h i).badN _).rep _ _
theorem nc {s0 s w o} (h:cR doc d s0 s w o):∀ i,cR doc d s0 (aH fst doc d i s) (wrR fst d.tab i (w,o)).1 (wrR fst d.tab i (w,o)).2
 | 0=>h
 | i+1=>((nc h i).set _).rep _ _
theorem ux (s:BP):cR doc d s (de low sto chk fst doc d s) (wr low sto chk fst d).1 (wr low sto chk fst d).2:=by
 have h0:cR doc d s s [] false:=⟨by simp,fun k=>by simp⟩
 have h1:=ni low sto doc d (h0.rep (Nat.blt 8 d.tab.cols.length) []) d.tab.cols.length
 have h2:=m6 doc d (h1.rep (aj d.tab) []) d.tab.key.length
 have h3:=nc fst doc d h2 d.tab.refs.length
 have h4:=h3.bad (!low d.name || !chk d.tab.chk)
 have e1:=yE low sto (!low d.name || !chk d.tab.chk) d.tab.cols d.tab.cols.length (ar (Nat.blt 8 d.tab.cols.length) [] [],false)
 have e2:=yC (!low d.name || !chk d.tab.chk) d.tab d.tab.key.length (ar (aj d.tab) [] (wrC low sto d.tab.cols d.tab.cols.length (ar (Nat.blt 8 d.tab.cols.length) [] [],false)).1,(wrC low sto d.tab.cols d.tab.cols.length (ar (Nat.blt 8 d.tab.cols.length) [] [],false)).2)
 have e3:=yM fst (!low d.name || !chk d.tab.chk) d.tab d.tab.refs.length (wrK d.tab d.tab.key.length (ar (aj d.tab) [] (wrC low sto d.tab.cols d.tab.cols.length (ar (Nat.blt 8 d.tab.cols.length) [] [],false)).1,(wrC low sto d.tab.cols d.tab.cols.length (ar (Nat.blt 8 d.tab.cols.length) [] [],false)).2))
 simp only [Bool.false_or] at e1
 have g2:=(congrArg (fun q:Wr=>wrK d.tab d.tab.key.length (ar (aj d.tab) [] q.1,q.2)) e1).trans e2
 have g3:=(congrArg (fun q:Wr=>wrR fst d.tab d.tab.refs.length q) g2).trans e3
 show cR doc d s _ (wrR fst d.tab d.tab.refs.length (wrK d.tab d.tab.key.length (ar (aj d.tab) [] (wrC low sto d.tab.cols d.tab.cols.length (ar (Nat.blt 8 d.tab.cols.length) [] [],!low d.name || !chk d.tab.chk)).1,(wrC low sto d.tab.cols d.tab.cols.length (ar (Nat.blt 8 d.tab.cols.length) [] [],!low d.name || !chk d.tab.chk)).2))).1 (wrR fst d.tab d.tab.refs.length (wrK d.tab d.tab.key.length (ar (aj d.tab) [] (wrC low sto d.tab.cols d.tab.cols.length (ar (Nat.blt 8 d.tab.cols.length) [] [],!low d.name || !chk d.tab.chk)).1,(wrC low sto d.tab.cols d.tab.cols.length (ar (Nat.blt 8 d.tab.cols.length) [] [],!low d.name || !chk d.tab.chk)).2))).2
 rw [g3]
 exact h4
end
end Go.Proofs.YtcpklndelobigaaGreatDoor
