/- A part of the proof: plain lemmas and walks. No condition. -/
import Derived.Test.YtcpklndelobigaaGreatDoorCA
set_option linter.all false
namespace Go.Proofs.YtcpklndelobigaaGreatDoor
open Go.Proofs.YtcpklndelobigaaGreatDoor.Abs
structure Dc where
 kind:Int
 name:List UInt8
 sum:Sm
 tab:Tb
 na:Int
 pos:Int
 fin:Int
structure Md where
 name:List UInt8
 decls:List Dc
structure Pb where
 doc:List UInt8
 pos:Int
 fin:Int
 code:Int
 names:List (List UInt8)
def Dc.zero:Dc:=⟨0,[],Sm.zero,Tb.zero,0,0,0⟩
def Md.zero:Md:=⟨[],[]⟩
def Pb.zero:Pb:=⟨[],0,0,0,[]⟩
def bV (l:List Co) (n:List UInt8):Co:=(l.find? (fun t=>t.name==n)).getD Co.zero
def bt (l:List Co) (n:List UInt8):Bool:=(l.find? (fun t=>t.name==n)).isSome
def dw (l:List Co) (n:List UInt8):Int:=match l.findIdx? (fun t=>t.name==n) with
 | some i=>(i:Nat)
 | none=>-1
theorem lL (l:List Co) (n:List UInt8):(dw l n<0/\bt l n=false)\/(0<=dw l n/\(dw l n).toNat<l.length/\bt l n=true/\l.getD (dw l n).toNat Co.zero=bV l n):=by
 unfold dw bt bV;cases h:l.findIdx? (fun t=>t.name==n) with
 | none =>
  left;rw [List.findIdx?_eq_none_iff] at h;refine ⟨by decide,?_⟩;rw [List.find?_eq_none.2 (fun x hx=>by simpa using h x hx)];rfl
 | some i =>
  right;obtain ⟨h1,h2,h3⟩:=List.findIdx?_eq_some_iff_getElem.1 h
  have hf:l.find? (fun t=>t.name==n)=some l[i]:=by
   rw [List.find?_eq_some_iff_getElem];exact ⟨h2,i,h1,rfl,fun j hj=>by simpa using h3 j hj⟩
  have e:(((i:Nat):Int)).toNat=i:=Int.toNat_natCast i;simp only [hf,e];exact ⟨by omega,h1,rfl,by rw [List.getD_eq_getElem?_getD,List.getElem?_eq_getElem h1]⟩
def tgt (t:Tb) (w:Ty):Bool:=(Nat.beq t.key.length 1) && (bt t.cols (t.key.getD 0 []) && (bV t.cols (t.key.getD 0 [])).type.beq w)
abbrev Wr:=List (List (List UInt8))×Bool
def aZ (b:Bool) (w:List (List UInt8)) (o:List (List (List UInt8))):List (List (List UInt8)):=bif b then o++[w] else o
section
variable (O:List UInt8->Bool) (U:Ty->Bool) (Y:Ex->Bool) (fst:List UInt8->Option Tb)
def wrC (cols:List Co):Nat->Wr->Wr
 | 0,s=>s
 | i+1,s=>let s:=wrC cols i s;(aZ (!U (cols.getD i Co.zero).type) [(cols.getD i Co.zero).name] s.1,s.2 || (!O (cols.getD i Co.zero).name || bt (cols.take i) (cols.getD i Co.zero).name))
def wrK (t:Tb):Nat->Wr->Wr
 | 0,s=>s
 | i+1,s=>let s:=wrK t i s;(aZ ((t.key.take i).contains (t.key.getD i [])) [t.key.getD i []] s.1,s.2 || !bt t.cols (t.key.getD i []))
def fB (t:Tb) (i:Nat):Bool:=(t.refs.take i).any (fun x=>x.col==(t.refs.getD i Rf.zero).col) || ((fst (t.refs.getD i Rf.zero).tab).isSome && (bt t.cols (t.refs.getD i Rf.zero).col && !tgt ((fst (t.refs.getD i Rf.zero).tab).getD Tb.zero) (bV t.cols (t.refs.getD i Rf.zero).col).type))
def wrR (t:Tb):Nat->Wr->Wr
 | 0,s=>s
 | i+1,s=>let s:=wrR t i s;(aZ (fB fst t i) [(t.refs.getD i Rf.zero).col,(t.refs.getD i Rf.zero).tab] s.1,s.2 || (!(fst (t.refs.getD i Rf.zero).tab).isSome || !bt t.cols (t.refs.getD i Rf.zero).col))
def aS (t:Tb):Bool:=Nat.blt t.key.length 1 || Nat.blt 3 t.key.length
def wr1 (d:Dc):Wr:=wrC O U d.tab.cols d.tab.cols.length (aZ (Nat.blt 8 d.tab.cols.length) [] [],!O d.name || !Y d.tab.chk)
def wr2 (d:Dc):Wr:=wrK d.tab d.tab.key.length (aZ (aS d.tab) [] (wr1 O U Y d).1,(wr1 O U Y d).2)
def wr (d:Dc):Wr:=wrR fst d.tab d.tab.refs.length (wr2 O U Y d)
end
abbrev BP:=List (List UInt8×Bool)×List Pb
def cS:Int:=8
def iZ (doc:List UInt8) (d:Dc) (w:List (List UInt8)):Pb:=⟨doc,d.na,d.na+((d.name.length:Nat):Int),cS,w⟩
def eb (n:List UInt8) (s:BP):BP:=(bM n true s.1,s.2)
def bH (doc:List UInt8) (d:Dc) (w:List (List UInt8)) (s:BP):BP:=(bM d.name true s.1,s.2++[iZ doc d w])
def aO (b:List (List UInt8×Bool)) (n:List UInt8):Bool:=(aC n b).getD false
section
variable (O:List UInt8->Bool) (U:Ty->Bool) (Y:Ex->Bool) (fst:List UInt8->Option Tb) (doc:List UInt8) (d:Dc)
def s4 (i:Nat):Bool:=!O (d.tab.cols.getD i Co.zero).name || bt (d.tab.cols.take i) (d.tab.cols.getD i Co.zero).name
def jk:Nat->BP->BP
 | 0,s=>s
 | i+1,s=>let s1:=(bif s4 O d i then eb d.name (jk i s) else jk i s);bif U (d.tab.cols.getD i Co.zero).type then s1 else bH doc d [(d.tab.cols.getD i Co.zero).name] s1
def jW:Nat->BP->BP
 | 0,s=>s
 | i+1,s=>let s1:=(bif bt d.tab.cols (d.tab.key.getD i []) then jW i s else eb d.name (jW i s));bif (d.tab.key.take i).contains (d.tab.key.getD i []) then bH doc d [d.tab.key.getD i []] s1 else s1
def jB (i:Nat):Bool:=!(fst (d.tab.refs.getD i Rf.zero).tab).isSome || !bt d.tab.cols (d.tab.refs.getD i Rf.zero).col
def bw:Nat->BP->BP
 | 0,s=>s
 | i+1,s=>let s0:=bw i s;let s1:BP:=(bM d.name (aO s0.1 d.name || jB fst d i) s0.1,s0.2);bif fB fst d.tab i then bH doc d [(d.tab.refs.getD i Rf.zero).col,(d.tab.refs.getD i Rf.zero).tab] s1 else s1
def b8 (s:BP):BP:=jk O U doc d d.tab.cols.length (bif Nat.blt 8 d.tab.cols.length then bH doc d [] s else s)
def cj (s:BP):BP:=jW doc d d.tab.key.length (bif aS d.tab then bH doc d [] s else s)
def cR (s:BP):BP:=bw fst doc d d.tab.refs.length s
def gl (s:BP):BP:=let s1:=cR fst doc d (cj doc d (b8 O U doc d s));bif !O d.name || !Y d.tab.chk then eb d.name s1 else s1
end
theorem ly {α:Type} (k k':List UInt8) (v:α):∀ l:List (List UInt8×α),aC k (bM k' v l)=if k=k' then some v else aC k l
 | []=>by simp only [bM,aC]
 | p::l=>by
  by_cases h:k'=p.1
  . simp only [bM,if_pos h,aC];by_cases h2:k=k'
    . rw [if_pos h2,if_pos h2]
    . rw [if_neg h2,if_neg h2,if_neg (fun e=>h2 (e.trans h.symm))]
  . simp only [bM,if_neg h,aC];by_cases h2:k=p.1
    . rw [if_pos h2,if_pos h2,if_neg (fun e=>h (e.symm.trans h2))]
    . rw [if_neg h2,if_neg h2,ly k k' v l]
theorem e5 (k k':List UInt8) (v:Bool) (l):aO (bM k' v l) k=if k=k' then v else aO l k:=by
 unfold aO;rw [ly];split <;> rfl
def d6 (doc:List UInt8) (d:Dc) (s0 s:BP) (w:List (List (List UInt8))) (o:Bool):Prop :=
 s.2=s0.2++w.map (iZ doc d)/\∀ k,aO s.1 k=(aO s0.1 k || ((k==d.name) && (!w.isEmpty || o)))
theorem d6.bad {doc d s0 s w o} (h:d6 doc d s0 s w o) (b:Bool):d6 doc d s0 (bif b then eb d.name s else s) w (o || b):=by
 cases b with
 | false=>simpa using h
 | true =>
  refine ⟨h.1,fun k=>?_⟩;simp only [cond_true,eb,e5];by_cases e:k=d.name
  . rw [if_pos e];simp [e]
  . rw [if_neg e,h.2 k,show (k==d.name)=false by simpa using e,Bool.false_and,Bool.false_and]
theorem d6.badN {doc d s0 s w o} (h:d6 doc d s0 s w o) (b:Bool):d6 doc d s0 (bif b then s else eb d.name s) w (o || !b):=by
 have:=h.bad (!b);cases b <;> simpa using this
theorem d6.set {doc d s0 s w o} (h:d6 doc d s0 s w o) (b:Bool):d6 doc d s0 (bM d.name (aO s.1 d.name || b) s.1,s.2) w (o || b):=by
 refine ⟨h.1,fun k=>?_⟩;simp only [e5];by_cases e:k=d.name
 . rw [if_pos e,h.2 d.name];subst e;simp [Bool.or_assoc]
 . rw [if_neg e,h.2 k,show (k==d.name)=false by simpa using e,Bool.false_and,Bool.false_and]
theorem d6.rep {doc d s0 s w o} (h:d6 doc d s0 s w o) (b:Bool) (x):d6 doc d s0 (bif b then bH doc d x s else s) (aZ b x w) o:=by
 cases b with
 | false=>simpa [aZ] using h
 | true =>
  refine ⟨by simp [bH,aZ,h.1],fun k=>?_⟩;simp only [cond_true,bH,e5,aZ];by_cases e:k=d.name
  . rw [if_pos e];simp [e]
  . rw [if_neg e,h.2 k,show (k==d.name)=false by simpa using e,Bool.false_and,Bool.false_and]
theorem d6.repN {doc d s0 s w o} (h:d6 doc d s0 s w o) (b:Bool) (x):d6 doc d s0 (bif b then s else bH doc d x s) (aZ (!b) x w) o:=by
 have:=h.rep (!b) x;cases b <;> simpa using this
section
variable (O:List UInt8->Bool) (U:Ty->Bool) (Y:Ex->Bool) (fst:List UInt8->Option Tb) (doc:List UInt8) (d:Dc)
theorem JT (e:Bool):∀ (cols:List Co) (i:Nat) (s:Wr),wrC O U cols i (s.1,s.2 || e)=((wrC O U cols i s).1,(wrC O U cols i s).2 || e)
 | _,0,s=>rfl
 | cols,i+1,s=>by simp only [wrC,JT e cols i s,Bool.or_assoc,Bool.or_comm e]
theorem KI (e:Bool) (t:Tb):∀ (i:Nat) (s:Wr),wrK t i (s.1,s.2 || e)=((wrK t i s).1,(wrK t i s).2 || e)
 | 0,s=>rfl
 | i+1,s=>by simp only [wrK,KI e t i s,Bool.or_assoc,Bool.or_comm e]
theorem Kd (e:Bool) (t:Tb):∀ (i:Nat) (s:Wr),wrR fst t i (s.1,s.2 || e)=((wrR fst t i s).1,(wrR fst t i s).2 || e)
 | 0,s=>rfl
 | i+1,s=>by simp only [wrR,Kd e t i s,Bool.or_assoc,Bool.or_comm e]
theorem tI {s0 s w o} (h:d6 doc d s0 s w o):∀ i,d6 doc d s0 (jk O U doc d i s) (wrC O U d.tab.cols i (w,o)).1 (wrC O U d.tab.cols i (w,o)).2
 | 0=>h
 | i+1=>((tI h i).bad (s4 O d i)).repN _ _
theorem tb {s0 s w o} (h:d6 doc d s0 s w o):∀ i,d6 doc d s0 (jW doc d i s) (wrK d.tab i (w,o)).1 (wrK d.tab i (w,o)).2
 | 0=>h
 | i+1=>((tb h i).badN _).rep _ _
theorem tj {s0 s w o} (h:d6 doc d s0 s w o):∀ i,d6 doc d s0 (bw fst doc d i s) (wrR fst d.tab i (w,o)).1 (wrR fst d.tab i (w,o)).2
 | 0=>h
 | i+1=>((tj h i).set _).rep _ _
theorem Db (s:BP):d6 doc d s (gl O U Y fst doc d s) (wr O U Y fst d).1 (wr O U Y fst d).2:=by
 have h0:d6 doc d s s [] false:=⟨by simp,fun k=>by simp⟩;have h1:=tI O U doc d (h0.rep (Nat.blt 8 d.tab.cols.length) []) d.tab.cols.length;have h2:=tb doc d (h1.rep (aS d.tab) []) d.tab.key.length;have h3:=tj fst doc d h2 d.tab.refs.length;have h4:=h3.bad (!O d.name || !Y d.tab.chk);have e1:=JT O U (!O d.name || !Y d.tab.chk) d.tab.cols d.tab.cols.length (aZ (Nat.blt 8 d.tab.cols.length) [] [],false);have e2:=KI (!O d.name || !Y d.tab.chk) d.tab d.tab.key.length (aZ (aS d.tab) [] (wrC O U d.tab.cols d.tab.cols.length (aZ (Nat.blt 8 d.tab.cols.length) [] [],false)).1,(wrC O U d.tab.cols d.tab.cols.length (aZ (Nat.blt 8 d.tab.cols.length) [] [],false)).2);have e3:=Kd fst (!O d.name || !Y d.tab.chk) d.tab d.tab.refs.length (wrK d.tab d.tab.key.length (aZ (aS d.tab) [] (wrC O U d.tab.cols d.tab.cols.length (aZ (Nat.blt 8 d.tab.cols.length) [] [],false)).1,(wrC O U d.tab.cols d.tab.cols.length (aZ (Nat.blt 8 d.tab.cols.length) [] [],false)).2));simp only [Bool.false_or] at e1;have g2:=(congrArg (fun q:Wr=>wrK d.tab d.tab.key.length (aZ (aS d.tab) [] q.1,q.2)) e1).trans e2;have g3:=(congrArg (fun q:Wr=>wrR fst d.tab d.tab.refs.length q) g2).trans e3;show d6 doc d s _ (wrR fst d.tab d.tab.refs.length (wrK d.tab d.tab.key.length (aZ (aS d.tab) [] (wrC O U d.tab.cols d.tab.cols.length (aZ (Nat.blt 8 d.tab.cols.length) [] [],!O d.name || !Y d.tab.chk)).1,(wrC O U d.tab.cols d.tab.cols.length (aZ (Nat.blt 8 d.tab.cols.length) [] [],!O d.name || !Y d.tab.chk)).2))).1 (wrR fst d.tab d.tab.refs.length (wrK d.tab d.tab.key.length (aZ (aS d.tab) [] (wrC O U d.tab.cols d.tab.cols.length (aZ (Nat.blt 8 d.tab.cols.length) [] [],!O d.name || !Y d.tab.chk)).1,(wrC O U d.tab.cols d.tab.cols.length (aZ (Nat.blt 8 d.tab.cols.length) [] [],!O d.name || !Y d.tab.chk)).2))).2;rw [g3];exact h4
end
def Tb.named (t:Tb) (n:List UInt8):Tb:=⟨n,t.cols,t.key,t.refs,t.chk⟩
section
variable {σ:Type} (f:List UInt8->Dc->σ->σ)
def dF (doc:List UInt8) (ds:List Dc):Nat->σ->σ
 | 0,s=>s
 | k+1,s=>f doc (ds.getD k Dc.zero) (dF doc ds k s)
def mF (V:List Md):Nat->σ->σ
 | 0,s=>s
 | i+1,s=>dF f (V.getD i Md.zero).name (V.getD i Md.zero).decls (V.getD i Md.zero).decls.length (mF V i s)
end
theorem vQ {σ τ:Type} {f:List UInt8->Dc->σ->σ} {g:List UInt8->Dc->τ->τ} {R:σ->τ->Prop} (hR:∀ doc d s s',R s s'->R (f doc d s) (g doc d s')) (doc ds) {s s'} (h:R s s'):∀ k,R (dF f doc ds k s) (dF g doc ds k s')
 | 0=>h
 | k+1=>hR _ _ _ _ (vQ hR doc ds h k)
theorem y6 {σ τ:Type} {f:List UInt8->Dc->σ->σ} {g:List UInt8->Dc->τ->τ} {R:σ->τ->Prop} (hR:∀ doc d s s',R s s'->R (f doc d s) (g doc d s')) (V) {s s'} (h:R s s'):∀ i,R (mF f V i s) (mF g V i s')
 | 0=>h
 | i+1=>vQ hR _ _ (y6 hR V h i) _
def gtS (a b:List UInt8):Bool:=!(aV a b || a==b)
def fb (l:List Tb) (n:List UInt8):Nat->Nat
 | 0=>0
 | a+1=>if gtS (l.getD a Tb.zero).name n=true then fb l n a else a+1
def vC (t:Tb) (l:List Tb):List Tb:=l.take (fb l t.name l.length)++[t]++l.drop (fb l t.name l.length)
theorem po:∀ (a b c:List UInt8),aV a b=true->aV b c=true->aV a c=true
 | _,_,[],_,h=>by simp [aV,Op.bytesLess] at h
 | _,[],_::_,h,_=>by simp [aV,Op.bytesLess] at h
 | [],_::_,_::_,_,_=>by simp [aV,Op.bytesLess]
 | x::a,y::b,z::c,h1,h2=>by
  simp only [aV,Op.bytesLess,Bool.or_eq_true,Bool.and_eq_true,decide_eq_true_eq,beq_iff_eq] at h1 h2 ⊢;rcases h1 with h1|⟨rfl,h1⟩ <;> rcases h2 with h2|⟨rfl,h2⟩
  . exact .inl (UInt8.lt_trans h1 h2)
  . exact .inl h1
  . exact .inl h2
  . exact .inr ⟨rfl,po a b c h1 h2⟩
theorem nK:∀ a:List UInt8,aV a a=false
 | []=>rfl
 | x::a=>by simp [aV,Op.bytesLess];exact nK a
theorem pm:∀ a b:List UInt8,aV a b=false->a=b\/aV b a=true
 | [],[],_=>.inl rfl
 | [],_::_,h=>by simp [aV,Op.bytesLess] at h
 | _::_,[],_=>.inr (by simp [aV,Op.bytesLess])
 | x::a,y::b,h=>by
  simp only [aV,Op.bytesLess,Bool.or_eq_false_iff,decide_eq_false_iff_not,Bool.and_eq_false_iff] at h;simp only [aV,Op.bytesLess,Bool.or_eq_true,Bool.and_eq_true,decide_eq_true_eq,beq_iff_eq];by_cases e:x=y
  . subst e;rcases h.2 with h2|h2
    . simp at h2
    . rcases pm a b h2 with rfl|h3
      . exact .inl rfl
      . exact .inr (.inr ⟨rfl,h3⟩)
  . right;left;rcases UInt8.lt_or_lt_of_ne (Ne.symm e) with h3|h3
    . exact h3
    . exact absurd h3 h.1
theorem ec {a b c:List UInt8} (h:aV a b=true) (k:aV b c=true):aV a c=true:=po a b c h k
theorem jd (a:List UInt8):aV a a=false:=nK a
theorem gS {a b:List UInt8} (h:aV a b=false):a=b\/aV b a=true:=pm a b h
theorem qv {a b:List UInt8}:gtS a b=true↔aV b a=true:=by
 unfold gtS;constructor
 . intro h;simp at h;rcases gS h.1 with e|e
   . exact absurd e h.2
   . exact e
 . intro h;simp;refine ⟨?_,fun e=>?_⟩
   . cases q:aV a b with
     | false=>rfl
     | true=>exact absurd (ec h q) (by simp [jd])
   . rw [e,jd] at h;exact absurd h zq
def zl (l:List Tb):Prop:=l.Pairwise (fun a b=>aV a.name b.name=true)
theorem B9 (l:List Tb) (n):∀ a,fb l n a<=a
 | 0=>Nat.le_refl _
 | a+1=>by unfold fb;split <;> have:=B9 l n a <;> omega
theorem A9 (l:List Tb) (n):∀ a k,fb l n a<=k->k<a->gtS (l.getD k Tb.zero).name n=true
 | 0,k,_,h=>by omega
 | a+1,k,h1,h2=>by
  unfold fb at h1;split at h1
  . rename_i hg;by_cases e:k=a
    . rw [e];exact hg
    . exact A9 l n a k h1 oq
  . omega
theorem B2 (l:List Tb) (n):∀ a,0<fb l n a->gtS (l.getD (fb l n a - 1) Tb.zero).name n=false
 | 0,h=>by simp [fb] at h
 | a+1,h=>by
  unfold fb at h ⊢;split
  . rename_i hg;rw [if_pos hg] at h;exact B2 l n a h
  . rename_i hg;simpa using hg
theorem bJ {α:Type} (l:List α) (d:α) (i:Nat) (h:i<l.length):l.getD i d=l[i]:=by
 rw [List.getD_eq_getElem?_getD,List.getElem?_eq_getElem h];rfl
theorem DT (t:Tb) (l:List Tb):(vC t l).Perm (t::l):=by
 unfold vC;have:=(List.perm_middle (a:=t) (l₁:=l.take (fb l t.name l.length)) (l₂:=l.drop (fb l t.name l.length)));rw [List.take_append_drop] at this;simpa using this
theorem F5 {t:Tb} {l:List Tb} (h:zl l) (hn:∀ x∈l,x.name≠t.name):zl (vC t l):=by
 have hp:=B9 l t.name l.length;have hgt:=A9 l t.name l.length;have hng:=B2 l t.name l.length;unfold vC;generalize fb l t.name l.length=p at *
 have hlow:∀ a∈l.take p,aV a.name t.name=true:=by
  intro a ha;obtain ⟨i,hi,rfl⟩:=List.getElem_of_mem ha;rw [List.length_take] at hi;rw [List.getElem_take];have hq:=hng oq;rw [bJ l _ _ oq] at hq
  have h1:aV (l[p - 1]' oq).name t.name=true:=by
   cases e:aV (l[p - 1]' oq).name t.name with
   | true=>rfl
   | false =>
    rcases gS e with e|e
    . exact absurd e (hn _ (List.getElem_mem _))
    . rw [qv.2 e] at hq;exact absurd hq zq
  by_cases e:i=p - 1
  . subst e;exact h1
  . exact ec (List.pairwise_iff_getElem.1 h i (p - 1) oq oq oq) h1
 have hhi:∀ b∈l.drop p,aV t.name b.name=true:=by
  intro b hb;obtain ⟨i,hi,rfl⟩:=List.getElem_of_mem hb;rw [List.length_drop] at hi;rw [List.getElem_drop];have:=hgt (p+i) oq oq;rw [bJ l _ _ oq] at this;exact qv.1 this
 refine List.pairwise_append.2 ⟨List.pairwise_append.2 ⟨h.sublist (List.take_sublist _ _),List.pairwise_singleton _ _,?_⟩,h.sublist (List.drop_sublist _ _),?_⟩
 . intro a ha b hb;rw [List.mem_singleton] at hb;subst hb;exact hlow a ha
 . intro a ha b hb;rcases List.mem_append.1 ha with ha|ha
   . exact ec (hlow a ha) (hhi b hb)
   . rw [List.mem_singleton] at ha;subst ha;exact hhi b hb
structure SP where
 seen:List (List UInt8×Bool)
 out:List Tb
 bp:BP
structure SR where
 seen:List (List UInt8)
 out:List Tb
 ps:List Pb
section
variable (O:List UInt8->Bool) (U:Ty->Bool) (Y:Ex->Bool) (fst:List UInt8->Option Tb)
def dP (doc:List UInt8) (d:Dc) (s:SP):SP :=
 if d.kind=1/\aO s.seen d.name=false then
  if 8<(bM d.name true s.seen).length then ⟨bM d.name true s.seen,s.out,bH doc d [] s.bp⟩
  else ⟨bM d.name true s.seen,s.out++[d.tab.named d.name],gl O U Y fst doc d s.bp⟩
 else s
def s6 (n:Nat) (d:Dc):List (List (List UInt8)):=if 8<n then [[]] else (wr O U Y fst d).1
def dR (doc:List UInt8) (d:Dc) (s:SR):SR :=
 if d.kind=1/\s.seen.contains d.name=false then
  ⟨s.seen++[d.name],if (s6 O U Y fst (s.seen++[d.name]).length d).isEmpty=true/\(wr O U Y fst d).2=false then vC (d.tab.named d.name) s.out else s.out,
   s.ps++(s6 O U Y fst (s.seen++[d.name]).length d).map (iZ doc d)⟩
 else s
end
structure Do (sp:SP) (sr:SR):Prop where
 seen:sp.seen.map Prod.fst=sr.seen
 tr:∀ n,aO sp.seen n=sr.seen.contains n
 ps:sp.bp.2=sr.ps
 bad:∀ n,sr.seen.contains n=false->aO sp.bp.1 n=false
 nod:sp.out.Pairwise (fun a b=>a.name≠b.name)
 nam:∀ t∈sp.out,sr.seen.contains t.name=true
 len:sp.out.length<=8/\sp.out.length<=sp.seen.length
 perm:sr.out.Perm (sp.out.filter (fun t=>!aO sp.bp.1 t.name))
 srt:zl sr.out
theorem xC {α:Type} (n:List UInt8) (v:α):∀ l:List (List UInt8×α),(l.map Prod.fst).contains n=false->bM n v l=l++[(n,v)]
 | [],_=>rfl
 | p::l,h=>by
  simp only [List.map_cons,List.contains_cons,Bool.or_eq_false_iff] at h;have hne:¬ n=p.1:=by simpa using h.1
  simp only [bM,if_neg hne,xC n v l h.2,List.cons_append]
theorem pj {B B':List (List UInt8×Bool)} {l:List Tb} (h:∀ t∈l,aO B' t.name=aO B t.name):l.filter (fun t=>!aO B' t.name)=l.filter (fun t=>!aO B t.name) :=
 List.filter_congr fun t ht=>by rw [h t ht]
theorem xM (O:List UInt8->Bool) (U:Ty->Bool) (Y:Ex->Bool) (fst:List UInt8->Option Tb) (doc:List UInt8) (d:Dc) (s:SP) (s':SR) (h:Do s s'):Do (dP O U Y fst doc d s) (dR O U Y fst doc d s'):=by
 unfold dP dR;by_cases hk:d.kind=1/\aO s.seen d.name=false
 . have hc:s'.seen.contains d.name=false:=by rw [<- h.tr];exact hk.2
   rw [if_pos hk,if_pos (show d.kind=1/\s'.seen.contains d.name=false from ⟨hk.1,hc⟩)];have hm:bM d.name true s.seen=s.seen++[(d.name,true)]:=xC _ _ _ (by rw [h.seen];exact hc);have hlen:(bM d.name true s.seen).length=(s'.seen++[d.name]).length:=by rw [hm,<- h.seen];simp
   have hnm:∀ t∈s.out,¬ t.name=d.name:=fun t ht e=>by
    have:=h.nam t ht;rw [e,hc] at this;exact absurd this zq
   have hseen:(bM d.name true s.seen).map Prod.fst=s'.seen++[d.name]:=by rw [hm,List.map_append,h.seen];rfl
   have htr:∀ n,aO (bM d.name true s.seen) n=(s'.seen++[d.name]).contains n:=fun n=>by
    rw [e5,h.tr n];by_cases e:n=d.name
    . rw [if_pos e];simp [e]
    . rw [if_neg e];simp [e]
   have hmem:∀ t∈s.out,(s'.seen++[d.name]).contains t.name=true:=fun t ht=>by
    have:=h.nam t ht;simp at this ⊢;exact .inl this
   have hsl:(bM d.name true s.seen).length=s.seen.length+1:=by rw [hm];simp
   have hcn:∀ n,(s'.seen++[d.name]).contains n=false->s'.seen.contains n=false/\¬ n=d.name:=fun n hn=>by simpa using hn
   by_cases h8:8<(bM d.name true s.seen).length
   . rw [if_pos h8];have hw:s6 O U Y fst (s'.seen++[d.name]).length d=[[]]:=by unfold s6;rw [if_pos oq]
     rw [hw,if_neg zq];have hb:∀ n,¬ n=d.name->aO (bH doc d [] s.bp).1 n=aO s.bp.1 n:=fun n hn=>by simp only [bH,e5,if_neg hn]
     refine ⟨hseen,htr,by simp [bH,h.ps],fun n hn=>?_,h.nod,hmem,⟨h.len.1,by show s.out.length<=_;rw [hsl];have:=h.len.2;omega⟩,?_,h.srt⟩
     . rw [hb n (hcn n hn).2];exact h.bad n (hcn n hn).1
     . show s'.out.Perm (s.out.filter _);rw [pj fun t ht=>hb t.name (hnm t ht)];exact h.perm
   . rw [if_neg h8];have hw:s6 O U Y fst (s'.seen++[d.name]).length d=(wr O U Y fst d).1:=by unfold s6;rw [if_neg oq]
     rw [hw];obtain ⟨t1,t2⟩:=Db O U Y fst doc d s.bp;have hb:∀ n,¬ n=d.name->aO (gl O U Y fst doc d s.bp).1 n=aO s.bp.1 n:=fun n hn=>by rw [t2];simp [hn]
     have hd:aO (gl O U Y fst doc d s.bp).1 d.name=(!(wr O U Y fst d).1.isEmpty || (wr O U Y fst d).2):=by rw [t2,h.bad d.name hc];simp
     have hf:(s.out.filter (fun t=>!aO (gl O U Y fst doc d s.bp).1 t.name))=s.out.filter (fun t=>!aO s.bp.1 t.name):=pj fun t ht=>hb t.name (hnm t ht)
     refine ⟨hseen,htr,by rw [t1,h.ps],fun n hn=>?_,?_,?_,?_,?_,?_⟩
     . rw [hb n (hcn n hn).2];exact h.bad n (hcn n hn).1
     . refine List.pairwise_append.2 ⟨h.nod,List.pairwise_singleton _ _,fun a ha b hb=>?_⟩;rw [List.mem_singleton] at hb;subst hb;exact hnm a ha
     . intro t ht;rcases List.mem_append.1 ht with ht|ht
       . exact hmem t ht
       . rw [List.mem_singleton] at ht;subst ht;simp [Tb.named]
     . simp only [List.length_append,List.length_singleton,hsl];have:=h.len;rw [hsl] at h8;omega
     . show List.Perm _ ((s.out++[d.tab.named d.name]).filter _);rw [List.filter_append,hf,List.filter_cons,List.filter_nil];by_cases hg:(wr O U Y fst d).1.isEmpty=true/\(wr O U Y fst d).2=false
       . rw [if_pos hg];have:(!aO (gl O U Y fst doc d s.bp).1 (d.tab.named d.name).name)=true:=by show (!aO _ d.name)=true;rw [hd,hg.1,hg.2];rfl
         rw [if_pos this];exact ((DT _ _).trans (h.perm.cons _)).trans (List.perm_append_singleton _ _).symm
       . rw [if_neg hg]
         have:¬ (!aO (gl O U Y fst doc d s.bp).1 (d.tab.named d.name).name)=true:=by
          show ¬ (!aO _ d.name)=true;rw [hd];cases h1:(wr O U Y fst d).1.isEmpty <;> cases h2:(wr O U Y fst d).2 <;> simp_all
         rw [if_neg this,List.append_nil];exact h.perm
     . by_cases hg:(wr O U Y fst d).1.isEmpty=true/\(wr O U Y fst d).2=false
       . rw [if_pos hg];refine F5 h.srt fun x hx=>?_
         have:=h.perm.mem_iff.1 hx;exact hnm x (List.mem_filter.1 this).1
       . rw [if_neg hg];exact h.srt
 . have hc:¬ (d.kind=1/\s'.seen.contains d.name=false):=by rw [<- h.tr];exact hk
   rw [if_neg hk,if_neg hc];exact h
theorem EI:Do ⟨[],[],([],[])⟩ ⟨[],[],[]⟩:=⟨rfl,fun _=>rfl,rfl,fun _ _=>rfl,List.Pairwise.nil,by simp,by simp,by simp,List.Pairwise.nil⟩
def nmF (B:List (List UInt8×Bool)) (l:List Tb):Nat->List (List UInt8×Bool)
 | 0=>[]
 | i+1=>bM (l.getD i Tb.zero).name (!aO B (l.getD i Tb.zero).name) (nmF B l i)
def cO (B N:List (List UInt8×Bool)) (t:Tb):Bool:=aO B t.name || t.refs.any (fun r=>!aO N r.tab)
def eG (B:List (List UInt8×Bool)) (l:List Tb):List Tb:=l.filter (fun t=>!cO B (nmF B l l.length) t)
def dJ (l:List Tb) (n:List UInt8):Bool:=l.any (fun t=>t.name==n)
def cH (l:List Tb):List Tb:=l.filter (fun t=>t.refs.all (fun r=>dJ l r.tab))
def itP (B:List (List UInt8×Bool)):Nat->List Tb->List Tb
 | 0,l=>l
 | k+1,l=>eG B (itP B k l)
def itR:Nat->List Tb->List Tb
 | 0,l=>l
 | k+1,l=>cH (itR k l)
theorem Be (B:List (List UInt8×Bool)) (l:List Tb) (n):∀ i,i<=l.length->aO (nmF B l i) n=(dJ (l.take i) n && !aO B n)
 | 0,_=>by simp [nmF,dJ,aO,aC]
 | i+1,h=>by
  have ht:l.take (i+1)=l.take i++[l.getD i Tb.zero]:=by rw [bJ l _ _ oq];exact List.take_succ_eq_append_getElem oq
  rw [nmF,e5,Be B l n i oq,ht];by_cases e:n=(l.getD i Tb.zero).name
  . rw [if_pos e];simp [dJ,e]
  . rw [if_neg e];have:((l.getD i Tb.zero).name==n)=false:=by simpa using fun q=>e q.symm
    simp only [dJ,List.any_append,List.any_cons,List.any_nil,this,Bool.or_false]
theorem se (B:List (List UInt8×Bool)) (l:List Tb):eG B l=l.filter (fun t=>!aO B t.name && t.refs.all (fun r=>dJ l r.tab && !aO B r.tab)):=by
 unfold eG;refine List.filter_congr fun t _=>?_
 have:∀ rs:List Rf,(!rs.any fun r=>!aO (nmF B l l.length) r.tab)=rs.all fun r=>dJ l r.tab && !aO B r.tab:=by
  intro rs
  induction rs with
  | nil=>rfl
  | cons r rs ih=>rw [List.any_cons,List.all_cons,<- ih,Be B l r.tab l.length (Nat.le_refl _),List.take_length];cases dJ l r.tab <;> cases aO B r.tab <;> simp
 unfold cO;rw [Bool.not_or,this]
theorem xn (B:List (List UInt8×Bool)) (l:List Tb) (n):(dJ (l.filter fun t=>!aO B t.name) n && !aO B n)=(dJ l n && !aO B n):=by
 cases hb:aO B n with
 | true=>simp
 | false =>
  simp only [Bool.not_false,Bool.and_true];unfold dJ;rw [Bool.eq_iff_iff,List.any_eq_true,List.any_eq_true];constructor
  . rintro ⟨x,hx,h⟩;exact ⟨x,(List.mem_filter.1 hx).1,h⟩
  . rintro ⟨x,hx,h⟩;refine ⟨x,List.mem_filter.2 ⟨hx,?_⟩,h⟩;rw [beq_iff_eq.1 h,hb];rfl
theorem yG (B:List (List UInt8×Bool)) (l:List Tb):eG B l=eG B (l.filter fun t=>!aO B t.name):=by
 rw [se,se,List.filter_filter];refine List.filter_congr fun t _=>?_
 have:(t.refs.all fun r=>dJ (l.filter fun t=>!aO B t.name) r.tab && !aO B r.tab)=t.refs.all fun r=>dJ l r.tab && !aO B r.tab:=by
  congr 1;funext r;exact xn B l r.tab
 rw [this];cases aO B t.name <;> simp
theorem CF {B:List (List UInt8×Bool)} {l:List Tb} (h:∀ t∈l,aO B t.name=false):eG B l=cH l:=by
 rw [se];refine List.filter_congr fun t ht=>?_
 rw [h t ht,Bool.not_false,Bool.true_and];congr 1;funext r;cases e:dJ l r.tab with
 | false=>rfl
 | true =>
  obtain ⟨x,hx,q⟩:=List.any_eq_true.1 e;rw [<- beq_iff_eq.1 q,h x hx];rfl
theorem ju (l:List Tb):(cH l).Sublist l:=List.filter_sublist
theorem nX (l:List Tb):∀ k,(itR k l).Sublist l
 | 0=>List.Sublist.refl _
 | k+1=>(ju _).trans (nX l k)
theorem vu {B:List (List UInt8×Bool)} {l:List Tb} (h:∀ t∈l,aO B t.name=false):∀ k,itP B k l=itR k l
 | 0=>rfl
 | k+1=>by
  rw [itP,itR,vu h k];exact CF fun t ht=>h t ((nX l k).subset ht)
theorem sA (B:List (List UInt8×Bool)) (l:List Tb):∀ k,itP B (k+1) l=itP B (k+1) (l.filter fun t=>!aO B t.name)
 | 0=>yG B l
 | k+1=>by rw [itP,sA B l k];rfl
theorem qG {l r:List Tb} (h:l.Perm r):(cH l).Perm (cH r):=by
 have e:(fun t:Tb=>t.refs.all (fun x=>dJ l x.tab))=fun t=>t.refs.all (fun x=>dJ r x.tab):=by
  funext t;congr 1;funext x;unfold dJ;rw [Bool.eq_iff_iff,List.any_eq_true,List.any_eq_true];exact ⟨fun ⟨y,hy,q⟩=>⟨y,h.mem_iff.1 hy,q⟩,fun ⟨y,hy,q⟩=>⟨y,h.mem_iff.2 hy,q⟩⟩
 unfold cH;rw [e];exact h.filter _
theorem ws {l r:List Tb} (h:l.Perm r):∀ k,(itR k l).Perm (itR k r)
 | 0=>h
 | k+1=>qG (ws h k)
theorem lA {l:List Tb} {k:Nat} (h:cH (itR k l)=itR k l):∀ j,itR (k+j) l=itR k l
 | 0=>rfl
 | j+1=>by rw [<- Nat.add_assoc,itR,lA h j,h]
theorem jC {l r:List Tb} (h:l.Sublist r) (e:r.length<=l.length):l=r:=h.eq_of_length_le e
theorem F4 {l:List Tb} {a b:Nat} (ha:cH (itR a l)=itR a l) (hb:cH (itR b l)=itR b l):itR a l=itR b l:=by
 rcases Nat.le_total a b with h|h
 . obtain ⟨c,rfl⟩:=Nat.le.dest h;exact (lA ha c).symm
 . obtain ⟨c,rfl⟩:=Nat.le.dest h;exact lA hb c
theorem Az {sp:SP} {sr:SR} (h:Do sp sr) {k k':Nat} (h1:(itP sp.bp.1 k sp.out).length<=(eG sp.bp.1 (itP sp.bp.1 k sp.out)).length) (h2:(itR k' sr.out).length<=(cH (itR k' sr.out)).length) {l:List Tb} (hl:l.Perm (itP sp.bp.1 k sp.out)) (hs:zl l):l=itR k' sr.out:=by
 have f1:eG sp.bp.1 (itP sp.bp.1 k sp.out)=itP sp.bp.1 k sp.out:=jC List.filter_sublist h1;have f2:cH (itR k' sr.out)=itR k' sr.out:=jC (ju _) h2;have hg:∀ t∈sp.out.filter (fun t=>!aO sp.bp.1 t.name),aO sp.bp.1 t.name=false:=fun t ht=>by simpa using (List.mem_filter.1 ht).2
 have e1:itP sp.bp.1 (k+1) sp.out=itR (k+1) (sp.out.filter fun t=>!aO sp.bp.1 t.name):=by rw [sA,vu hg]
 have e2:cH (itR (k+1) (sp.out.filter fun t=>!aO sp.bp.1 t.name))=itR (k+1) (sp.out.filter fun t=>!aO sp.bp.1 t.name):=by
  have:itP sp.bp.1 (k+2) sp.out=itR (k+2) (sp.out.filter fun t=>!aO sp.bp.1 t.name):=by rw [sA,vu hg]
  show itR (k+2) _=_;rw [<- this,<- e1];show eG _ (eG _ (itP _ k _))=eG _ (itP _ k _);rw [f1,f1]
 have p1:(itR k' sr.out).Perm (itR k' (sp.out.filter fun t=>!aO sp.bp.1 t.name)):=ws h.perm k'
 have e3:cH (itR k' (sp.out.filter fun t=>!aO sp.bp.1 t.name))=itR k' (sp.out.filter fun t=>!aO sp.bp.1 t.name):=by
  refine jC (ju _) ?_;rw [<- p1.length_eq,<- (qG p1).length_eq,f2];exact Nat.le_refl _
 have p2:l.Perm (itR k' sr.out):=by
  refine hl.trans ?_;rw [<- f1];show (itP _ (k+1) _).Perm _;rw [e1,F4 e2 e3];exact p1.symm
 have hs2:zl (itR k' sr.out):=h.srt.sublist (nX _ _);refine List.Perm.eq_of_pairwise (le:=fun a b:Tb=>aV a.name b.name=true) (fun a b _ _ q1 q2=>?_) hs hs2 p2;exact absurd (ec q1 q2) (by simp [jd])
def q9 (l:List Tb) (j:Nat):List Tb:=(l.set j (l.getD (j - 1) Tb.zero)).set (j - 1) (l.getD j Tb.zero)
def g0:Nat->List Tb->List Tb
 | 0,l=>l
 | j+1,l=>if aV (l.getD (j+1) Tb.zero).name (l.getD j Tb.zero).name=true then g0 j (q9 l (j+1)) else l
def fJ:Nat->List Tb->List Tb
 | 0,l=>l
 | i+1,l=>g0 i (fJ i l)
theorem np (l:List Tb) (j):(q9 l j).length=l.length:=by simp [q9]
theorem ls {α:Type} (l:List α) (d x:α) (i k:Nat) (h:i<l.length):(l.set i x).getD k d=if k=i then x else l.getD k d:=by
 simp only [List.getD_eq_getElem?_getD,List.getElem?_set];by_cases e:i=k
 . subst e;simp [h]
 . rw [if_neg e,if_neg (fun q=>e q.symm)]
theorem nm (l:List Tb) {j k:Nat} (hj:j+1<l.length):(q9 l (j+1)).getD k Tb.zero=if k=j+1 then l.getD j Tb.zero else if k=j then l.getD (j+1) Tb.zero else l.getD k Tb.zero:=by
 unfold q9;rw [Nat.add_sub_cancel,ls _ _ _ _ _ (by rw [List.length_set];omega),ls _ _ _ _ _ hj];by_cases h1:k=j
 . subst h1;rw [if_pos rfl,if_neg oq,if_pos rfl]
 . rw [if_neg h1,if_neg h1]
theorem Dp (l:List Tb) {j:Nat} (hj:j+1<l.length):(q9 l (j+1)).Perm l:=by
 have e:q9 l (j+1)=(l.set (j+1) l[j]).set j l[j+1]:=by
  unfold q9;rw [Nat.add_sub_cancel,bJ l _ _ oq,bJ l _ _ hj]
 rw [e,List.set_comm _ _ oq];exact List.set_set_perm oq hj
theorem xi:∀ (j:Nat) (l:List Tb),(g0 j l).length=l.length
 | 0,l=>rfl
 | j+1,l=>by unfold g0;split;rw [xi j,np];rfl
theorem jr (l:List Tb):∀ i,(fJ i l).length=l.length
 | 0=>rfl
 | i+1=>by rw [fJ,xi,jr l i]
theorem td:∀ (j:Nat) (l:List Tb),j<l.length->(g0 j l).Perm l
 | 0,l,_=>List.Perm.refl _
 | j+1,l,h=>by
  unfold g0;split
  . exact (td j _ (by rw [np];omega)).trans (Dp l h)
  . exact List.Perm.refl _
theorem lG (l:List Tb):∀ i,i<=l.length->(fJ i l).Perm l
 | 0,_=>List.Perm.refl _
 | i+1,h=>(td i _ (by rw [jr];omega)).trans (lG l i oq)
def leN (a b:Tb):Prop:=aV b.name a.name=false
theorem Mm {a b c:Tb} (h:leN a b) (k:leN b c):leN a c:=by
 unfold leN at *;cases e:aV c.name a.name with
 | false=>rfl
 | true =>
  rcases gS h with q|q
  . rw [q,e] at k;exact absurd k zq
  . exact absurd (ec e q) (by simp [k])
theorem LI {a b:Tb} (h:aV a.name b.name=true):leN a b:=by
 unfold leN;cases e:aV b.name a.name with
 | false=>rfl
 | true=>exact absurd (ec h e) (by simp [jd])
def Mid (l:List Tb) (i j:Nat):Prop:=(∀ a b,a<b->b<=i->a≠j->b≠j->leN (l.getD a Tb.zero) (l.getD b Tb.zero))/\∀ b,j<b->b<=i->leN (l.getD j Tb.zero) (l.getD b Tb.zero)
theorem Bl {i:Nat}:∀ (j:Nat) (l:List Tb),j<=i->i<l.length->Mid l i j->∀ a b,a<b->b<=i->leN ((g0 j l).getD a Tb.zero) ((g0 j l).getD b Tb.zero)
 | 0,l,_,_,h,a,b,hab,hb=>by
  show leN (l.getD a Tb.zero) (l.getD b Tb.zero);by_cases e:a=0
  . subst e;exact h.2 b hab hb
  . exact h.1 a b hab hb e oq
 | j+1,l,hj,hi,h,a,b,hab,hb=>by
  unfold g0;split
  . rename_i hlt;refine Bl j _ oq (by rw [np];exact hi) ⟨fun a b hab hb ha hb'=>?_,fun b hjb hb=>?_⟩ a b hab hb
    . rw [nm l oq,nm l oq,if_neg ha,if_neg hb'];by_cases e1:a=j+1
      . rw [if_pos e1,if_neg oq];exact h.1 j b oq hb oq oq
      . rw [if_neg e1];by_cases e2:b=j+1
        . rw [if_pos e2];exact h.1 a j oq oq e1 oq
        . rw [if_neg e2];exact h.1 a b hab hb e1 e2
    . rw [nm l oq,nm l oq,if_neg oq,if_pos rfl];by_cases e2:b=j+1
      . rw [if_pos e2];exact LI hlt
      . rw [if_neg e2,if_neg oq];exact h.2 b oq hb
  . rename_i hlt;have hle:leN (l.getD j Tb.zero) (l.getD (j+1) Tb.zero):=by unfold leN;simpa using hlt
    by_cases e1:a=j+1
    . subst e1;exact h.2 b hab hb
    . by_cases e2:b=j+1
      . subst e2;by_cases e3:a=j
        . subst e3;exact hle
        . exact Mm (h.1 a j oq oq e1 oq) hle
      . exact h.1 a b hab hb e1 e2
theorem wY (l:List Tb):∀ i,i<=l.length->∀ a b,a<b->b<i->leN ((fJ i l).getD a Tb.zero) ((fJ i l).getD b Tb.zero)
 | 0,_,a,b,_,h=>by omega
 | i+1,hi,a,b,hab,hb=>by
  refine Bl i (fJ i l) (Nat.le_refl _) (by rw [jr];omega) ⟨fun a b hab hb ha hb'=>?_,fun b h1 h2=>by omega⟩ a b hab oq;exact wY l i oq a b hab oq
theorem Gr {l:List Tb} (h:l.Pairwise (fun a b=>a.name≠b.name)):zl (fJ l.length l):=by
 have hp:=lG l l.length (Nat.le_refl _);have hn:(fJ l.length l).Pairwise (fun a b=>a.name≠b.name):=hp.symm.pairwise h (fun h e=>h e.symm);refine List.pairwise_iff_getElem.2 fun a b ha hb hab=>?_
 have h1:=wY l l.length (Nat.le_refl _) a b hab (by rw [jr] at hb;exact hb);rw [bJ _ _ _ ha,bJ _ _ _ hb] at h1;rcases gS h1 with e|e
 . exact absurd e.symm (List.pairwise_iff_getElem.1 hn a b ha hb hab)
 . exact e
def fZ (n:List UInt8) (ds:List Dc):Option Tb:=(ds.find? (fun d=>d.kind==1 && d.name==n)).map Dc.tab
def ba (n:List UInt8):List Md->Option Tb
 | []=>none
 | m::r=>match fZ n m.decls with
  | some t=>some t
  | none=>ba n r
def orE {α:Type}:Option α->Option α->Option α
 | some x,_=>some x
 | none,y=>y
theorem gP (n:List UInt8) (m:Md) (r:List Md):ba n (m::r)=orE (fZ n m.decls) (ba n r):=by
 rw [ba];cases fZ n m.decls <;> rfl
theorem nP (n:List UInt8):∀ a b,ba n (a++b)=orE (ba n a) (ba n b)
 | [],b=>rfl
 | m::a,b=>by
  rw [List.cons_append,gP,gP,nP n a b];cases fZ n m.decls <;> rfl
theorem ny (n:List UInt8) (a b:List Dc):fZ n (a++b)=orE (fZ n a) (fZ n b):=by
 unfold fZ;rw [List.find?_append];cases a.find? _ <;> rfl
theorem cm {α:Type} (l:List α) (d:α) (i:Nat) (h:i<l.length):l.take (i+1)=l.take i++[l.getD i d]:=by
 rw [bJ l d i h];exact List.take_succ_eq_append_getElem h
theorem rT (n:List UInt8) (d:Dc):fZ n [d]=if d.kind=1/\d.name=n then some d.tab else none:=by
 unfold fZ;by_cases h:d.kind=1/\d.name=n
 . rw [if_pos h,List.find?_cons_of_pos (by simp [h])];rfl
 . rw [if_neg h,List.find?_cons_of_neg (by simpa using h)];rfl
theorem tJ {n:List UInt8} {ds:List Dc} {k:Nat} (hk:k<ds.length) (h:fZ n (ds.take k)=none) (hn:¬ ((ds.getD k Dc.zero).kind=1/\(ds.getD k Dc.zero).name=n)):fZ n (ds.take (k+1))=none:=by
 rw [cm ds Dc.zero k hk,ny,h,rT,if_neg hn];rfl
theorem CU {n:List UInt8} {V:List Md} {i:Nat} (hi:i<V.length) (h:ba n (V.take i)=none) (hd:fZ n (V.getD i Md.zero).decls=none):ba n (V.take (i+1))=none:=by
 rw [cm V Md.zero i hi,nP,h,gP,hd];rfl
theorem Hc {n:List UInt8} {V:List Md} {i k:Nat} (hi:i<V.length) (hk:k<(V.getD i Md.zero).decls.length) (h:ba n (V.take i)=none) (hd:fZ n ((V.getD i Md.zero).decls.take k)=none)
 (h1:((V.getD i Md.zero).decls.getD k Dc.zero).kind=1) (h2:((V.getD i Md.zero).decls.getD k Dc.zero).name=n):ba n V=some ((V.getD i Md.zero).decls.getD k Dc.zero).tab:=by
 have e1:V=V.take i++(V.getD i Md.zero::V.drop (i+1)):=by
  rw [bJ V _ _ hi,<- List.drop_eq_getElem_cons hi,List.take_append_drop]
 have e2:(V.getD i Md.zero).decls=(V.getD i Md.zero).decls.take k++((V.getD i Md.zero).decls.getD k Dc.zero::(V.getD i Md.zero).decls.drop (k+1)):=by
  rw [bJ (V.getD i Md.zero).decls _ _ hk,<- List.drop_eq_getElem_cons hk,List.take_append_drop]
 have e3:fZ n (V.getD i Md.zero).decls=some ((V.getD i Md.zero).decls.getD k Dc.zero).tab:=by
  have:=congrArg (fZ n) e2;rw [ny,hd,<- List.singleton_append,ny,rT,if_pos ⟨h1,h2⟩] at this;exact this
 have:=congrArg (ba n) e1;rw [nP,h,gP,e3] at this;exact this
abbrev Tm_:=List (List UInt8×Tb)
def tmf (_:List UInt8) (d:Dc) (T:Tm_):Tm_:=if aC d.name T=none/\d.kind=1 then bM d.name d.tab T else T
theorem BJ (n doc:List UInt8) (ds:List Dc) (T:Tm_):∀ k,k<=ds.length->aC n (dF tmf doc ds k T)=orE (aC n T) (fZ n (ds.take k))
 | 0,_=>by
  show aC n T=orE (aC n T) none;cases aC n T <;> rfl
 | k+1,h=>by
  have ih:=fun m=>BJ m doc ds T k oq
  rw [cm ds Dc.zero k oq,ny,rT,dF];by_cases hc:aC (ds.getD k Dc.zero).name (dF tmf doc ds k T)=none/\(ds.getD k Dc.zero).kind=1
  . show aC n (if aC (ds.getD k Dc.zero).name (dF tmf doc ds k T)=none/\(ds.getD k Dc.zero).kind=1 then _ else _)=_;rw [if_pos hc,ly];by_cases e:n=(ds.getD k Dc.zero).name
    . rw [if_pos e,if_pos ⟨hc.2,e.symm⟩];have:=hc.1;rw [ih] at this;rw [e];cases h1:aC (ds.getD k Dc.zero).name T with
      | some x=>rw [h1] at this;cases this
      | none =>
       rw [h1] at this;have h2:fZ (ds.getD k Dc.zero).name (ds.take k)=none:=this;rw [h2];rfl
    . rw [if_neg e,if_neg (fun q=>e q.2.symm),ih n];cases aC n T <;> cases fZ n (ds.take k) <;> rfl
  . show aC n (if aC (ds.getD k Dc.zero).name (dF tmf doc ds k T)=none/\(ds.getD k Dc.zero).kind=1 then _ else _)=_;rw [if_neg hc,ih n];by_cases e:(ds.getD k Dc.zero).kind=1/\(ds.getD k Dc.zero).name=n
    . rw [if_pos e];have h1:aC (ds.getD k Dc.zero).name (dF tmf doc ds k T)≠none:=fun q=>hc ⟨q,e.1⟩
      rw [ih,e.2] at h1;cases h2:aC n T with
      | some x=>rfl
      | none =>
       rw [h2] at h1;cases h3:fZ n (ds.take k) with
       | some x=>rfl
       | none=>rw [h3] at h1;exact absurd rfl h1
    . rw [if_neg e];cases aC n T <;> cases fZ n (ds.take k) <;> rfl
theorem AI (n:List UInt8) (V:List Md):∀ i,i<=V.length->aC n (mF tmf V i [])=ba n (V.take i)
 | 0,_=>rfl
 | i+1,h=>by
  rw [mF,BJ n _ _ _ _ (Nat.le_refl _),List.take_length,AI n V i oq,cm V Md.zero i oq,nP,gP];cases ba n (V.take i) <;> cases fZ n (V.getD i Md.zero).decls <;> rfl
theorem MH (V:List Md):(fun n=>aC n (mF tmf V V.length []))=fun n=>ba n V:=by
 funext n;rw [AI n V _ (Nat.le_refl _),List.take_length]
def e9 (l:List Sm) (n:List UInt8):Nat->Nat
 | 0=>0
 | a+1=>if gtS (l.getD a Sm.zero).name n=true then e9 l n a else a+1
def sW (t:Sm) (l:List Sm):List Sm:=l.take (e9 l t.name l.length)++[t]++l.drop (e9 l t.name l.length)
def IR (l:List Sm):Prop:=l.Pairwise (fun a b=>aV a.name b.name=true)
theorem B0 (l:List Sm) (n):∀ a,e9 l n a<=a
 | 0=>Nat.le_refl _
 | a+1=>by unfold e9;split <;> have:=B0 l n a <;> omega
theorem A6 (l:List Sm) (n):∀ a k,e9 l n a<=k->k<a->gtS (l.getD k Sm.zero).name n=true
 | 0,k,_,h=>by omega
 | a+1,k,h1,h2=>by
  unfold e9 at h1;split at h1
  . rename_i hg;by_cases e:k=a
    . rw [e];exact hg
    . exact A6 l n a k h1 oq
  . omega
theorem AJ (l:List Sm) (n):∀ a,0<e9 l n a->gtS (l.getD (e9 l n a - 1) Sm.zero).name n=false
 | 0,h=>by simp [e9] at h
 | a+1,h=>by
  unfold e9 at h ⊢;split
  . rename_i hg;rw [if_pos hg] at h;exact AJ l n a h
  . rename_i hg;simpa using hg
theorem Ch (t:Sm) (l:List Sm):(sW t l).Perm (t::l):=by
 unfold sW;have:=(List.perm_middle (a:=t) (l₁:=l.take (e9 l t.name l.length)) (l₂:=l.drop (e9 l t.name l.length)));rw [List.take_append_drop] at this;simpa using this
theorem ET {t:Sm} {l:List Sm} (h:IR l) (hn:∀ x∈l,x.name≠t.name):IR (sW t l):=by
 have hp:=B0 l t.name l.length;have hgt:=A6 l t.name l.length;have hng:=AJ l t.name l.length;unfold sW;generalize e9 l t.name l.length=p at *
 have hlow:∀ a∈l.take p,aV a.name t.name=true:=by
  intro a ha;obtain ⟨i,hi,rfl⟩:=List.getElem_of_mem ha;rw [List.length_take] at hi;rw [List.getElem_take];have hq:=hng oq;rw [bJ l _ _ oq] at hq
  have h1:aV (l[p - 1]' oq).name t.name=true:=by
   cases e:aV (l[p - 1]' oq).name t.name with
   | true=>rfl
   | false =>
    rcases gS e with e|e
    . exact absurd e (hn _ (List.getElem_mem _))
    . rw [qv.2 e] at hq;exact absurd hq zq
  by_cases e:i=p - 1
  . subst e;exact h1
  . exact ec (List.pairwise_iff_getElem.1 h i (p - 1) oq oq oq) h1
 have hhi:∀ b∈l.drop p,aV t.name b.name=true:=by
  intro b hb;obtain ⟨i,hi,rfl⟩:=List.getElem_of_mem hb;rw [List.length_drop] at hi;rw [List.getElem_drop];have:=hgt (p+i) oq oq;rw [bJ l _ _ oq] at this;exact qv.1 this
 refine List.pairwise_append.2 ⟨List.pairwise_append.2 ⟨h.sublist (List.take_sublist _ _),List.pairwise_singleton _ _,?_⟩,h.sublist (List.drop_sublist _ _),?_⟩
 . intro a ha b hb;rw [List.mem_singleton] at hb;subst hb;exact hlow a ha
 . intro a ha b hb;rcases List.mem_append.1 ha with ha|ha
   . exact ec (hlow a ha) (hhi b hb)
   . rw [List.mem_singleton] at ha;subst ha;exact hhi b hb
def sB (l:List Sm) (j:Nat):List Sm:=(l.set j (l.getD (j - 1) Sm.zero)).set (j - 1) (l.getD j Sm.zero)
def iB:Nat->List Sm->List Sm
 | 0,l=>l
 | j+1,l=>if aV (l.getD (j+1) Sm.zero).name (l.getD j Sm.zero).name=true then iB j (sB l (j+1)) else l
def fP:Nat->List Sm->List Sm
 | 0,l=>l
 | i+1,l=>iB i (fP i l)
theorem m0 (l:List Sm) (j):(sB l j).length=l.length:=by simp [sB]
theorem m8 (l:List Sm) {j k:Nat} (hj:j+1<l.length):(sB l (j+1)).getD k Sm.zero=if k=j+1 then l.getD j Sm.zero else if k=j then l.getD (j+1) Sm.zero else l.getD k Sm.zero:=by
 unfold sB;rw [Nat.add_sub_cancel,ls _ _ _ _ _ (by rw [List.length_set];omega),ls _ _ _ _ _ hj];by_cases h1:k=j
 . subst h1;rw [if_pos rfl,if_neg oq,if_pos rfl]
 . rw [if_neg h1,if_neg h1]
theorem Dd (l:List Sm) {j:Nat} (hj:j+1<l.length):(sB l (j+1)).Perm l:=by
 have e:sB l (j+1)=(l.set (j+1) l[j]).set j l[j+1]:=by
  unfold sB;rw [Nat.add_sub_cancel,bJ l _ _ oq,bJ l _ _ hj]
 rw [e,List.set_comm _ _ oq];exact List.set_set_perm oq hj
theorem wN:∀ (j:Nat) (l:List Sm),(iB j l).length=l.length
 | 0,l=>rfl
 | j+1,l=>by unfold iB;split;rw [wN j,m0];rfl
theorem jx (l:List Sm):∀ i,(fP i l).length=l.length
 | 0=>rfl
 | i+1=>by rw [fP,wN,jx l i]
theorem tc:∀ (j:Nat) (l:List Sm),j<l.length->(iB j l).Perm l
 | 0,l,_=>List.Perm.refl _
 | j+1,l,h=>by
  unfold iB;split
  . exact (tc j _ (by rw [m0];omega)).trans (Dd l h)
  . exact List.Perm.refl _
theorem je (l:List Sm):∀ i,i<=l.length->(fP i l).Perm l
 | 0,_=>List.Perm.refl _
 | i+1,h=>(tc i _ (by rw [jx];omega)).trans (je l i oq)
def leM (a b:Sm):Prop:=aV b.name a.name=false
theorem L8 {a b c:Sm} (h:leM a b) (k:leM b c):leM a c:=by
 unfold leM at *;cases e:aV c.name a.name with
 | false=>rfl
 | true =>
  rcases gS h with q|q
  . rw [q,e] at k;exact absurd k zq
  . exact absurd (ec e q) (by simp [k])
theorem K8 {a b:Sm} (h:aV a.name b.name=true):leM a b:=by
 unfold leM;cases e:aV b.name a.name with
 | false=>rfl
 | true=>exact absurd (ec h e) (by simp [jd])
def P8 (l:List Sm) (i j:Nat):Prop:=(∀ a b,a<b->b<=i->a≠j->b≠j->leM (l.getD a Sm.zero) (l.getD b Sm.zero))/\∀ b,j<b->b<=i->leM (l.getD j Sm.zero) (l.getD b Sm.zero)
theorem xc {i:Nat}:∀ (j:Nat) (l:List Sm),j<=i->i<l.length->P8 l i j->∀ a b,a<b->b<=i->leM ((iB j l).getD a Sm.zero) ((iB j l).getD b Sm.zero)
 | 0,l,_,_,h,a,b,hab,hb=>by
  show leM (l.getD a Sm.zero) (l.getD b Sm.zero);by_cases e:a=0
  . subst e;exact h.2 b hab hb
  . exact h.1 a b hab hb e oq
 | j+1,l,hj,hi,h,a,b,hab,hb=>by
  unfold iB;split
  . rename_i hlt;refine xc j _ oq (by rw [m0];exact hi) ⟨fun a b hab hb ha hb'=>?_,fun b hjb hb=>?_⟩ a b hab hb
    . rw [m8 l oq,m8 l oq,if_neg ha,if_neg hb'];by_cases e1:a=j+1
      . rw [if_pos e1,if_neg oq];exact h.1 j b oq hb oq oq
      . rw [if_neg e1];by_cases e2:b=j+1
        . rw [if_pos e2];exact h.1 a j oq oq e1 oq
        . rw [if_neg e2];exact h.1 a b hab hb e1 e2
    . rw [m8 l oq,m8 l oq,if_neg oq,if_pos rfl];by_cases e2:b=j+1
      . rw [if_pos e2];exact K8 hlt
      . rw [if_neg e2,if_neg oq];exact h.2 b oq hb
  . rename_i hlt;have hle:leM (l.getD j Sm.zero) (l.getD (j+1) Sm.zero):=by unfold leM;simpa using hlt
    by_cases e1:a=j+1
    . subst e1;exact h.2 b hab hb
    . by_cases e2:b=j+1
      . subst e2;by_cases e3:a=j
        . subst e3;exact hle
        . exact L8 (h.1 a j oq oq e1 oq) hle
      . exact h.1 a b hab hb e1 e2
theorem wl (l:List Sm):∀ i,i<=l.length->∀ a b,a<b->b<i->leM ((fP i l).getD a Sm.zero) ((fP i l).getD b Sm.zero)
 | 0,_,a,b,_,h=>by omega
 | i+1,hi,a,b,hab,hb=>by
  refine xc i (fP i l) (Nat.le_refl _) (by rw [jx];omega) ⟨fun a b hab hb ha hb'=>?_,fun b h1 h2=>by omega⟩ a b hab oq;exact wl l i oq a b hab oq
theorem D8 {l:List Sm} (h:l.Pairwise (fun a b=>a.name≠b.name)):IR (fP l.length l):=by
 have hp:=je l l.length (Nat.le_refl _);have hn:(fP l.length l).Pairwise (fun a b=>a.name≠b.name):=hp.symm.pairwise h (fun h e=>h e.symm);refine List.pairwise_iff_getElem.2 fun a b ha hb hab=>?_
 have h1:=wl l l.length (Nat.le_refl _) a b hab (by rw [jx] at hb;exact hb);rw [bJ _ _ _ ha,bJ _ _ _ hb] at h1;rcases gS h1 with e|e
 . exact absurd e.symm (List.pairwise_iff_getElem.1 hn a b ha hb hab)
 . exact e
structure SU where
 seen:List (List UInt8)
 ct:List (List UInt8)
 out:List Sm
def sP (d:Dc):Sm:=⟨d.name,d.sum.ctors⟩
section
variable (D:List UInt8->Bool) (cok:Ct->Bool)
def okC (C:List (List UInt8)) (l:List Ct):Nat->Bool
 | 0=>true
 | j+1=>okC C l j && (cok (l.getD j Ct.zero) && !((l.take j).map Ct.name).contains (l.getD j Ct.zero).name && !C.contains (l.getD j Ct.zero).name)
def okS (C:List (List UInt8)) (d:Dc):Bool:=D d.name && okC cok C d.sum.ctors d.sum.ctors.length && !d.sum.ctors.isEmpty
def dSm (ins:Sm->List Sm->List Sm) (_:List UInt8) (d:Dc) (s:SU):SU :=
 if d.kind=0/\s.seen.contains d.name=false then
  if okS D cok s.ct d=true then ⟨s.seen++[d.name],s.ct++d.sum.ctors.map Ct.name,ins (sP d) s.out⟩
  else ⟨s.seen++[d.name],s.ct,s.out⟩
 else s
end
def ur (t:Sm) (l:List Sm):List Sm:=l++[t]
structure CI (p r:SU):Prop where
 seen:p.seen=r.seen
 ct:p.ct=r.ct
 perm:r.out.Perm p.out
 srt:IR r.out
 nam:∀ t∈p.out,p.seen.contains t.name=true
 nod:p.out.Pairwise (fun a b=>a.name≠b.name)
theorem D1:CI ⟨[],[],[]⟩ ⟨[],[],[]⟩:=⟨rfl,rfl,List.Perm.refl _,List.Pairwise.nil,fun _ h=>(by cases h),List.Pairwise.nil⟩
theorem tf (D:List UInt8->Bool) (cok:Ct->Bool) (doc:List UInt8) (d:Dc) (s s':SU) (h:CI s s'):CI (dSm D cok ur doc d s) (dSm D cok sW doc d s'):=by
 have hmem:∀ n:List UInt8,s.seen.contains n=true->(s.seen++[d.name]).contains n=true:=fun n hn=>by simp at hn ⊢;exact .inl hn
 unfold dSm;rw [<- h.seen,<- h.ct];split
 . rename_i hk;split
   . have hnm:∀ t∈s.out,¬ t.name=d.name:=fun t ht q=>by
      have:=h.nam t ht;rw [q,hk.2] at this;exact absurd this zq
     refine ⟨rfl,rfl,?_,?_,?_,?_⟩
     . exact (Ch _ _).trans ((h.perm.cons _).trans (List.perm_append_singleton _ _).symm)
     . exact ET h.srt fun x hx=>hnm x (h.perm.mem_iff.1 hx)
     . intro t ht;rcases List.mem_append.1 ht with q|q
       . exact hmem _ (h.nam t q)
       . rw [List.mem_singleton] at q;subst q;simp [sP]
     . refine List.pairwise_append.2 ⟨h.nod,List.pairwise_singleton _ _,fun a ha b hb=>?_⟩;rw [List.mem_singleton] at hb;subst hb;exact hnm a ha
   . exact ⟨rfl,rfl,h.perm,h.srt,fun t ht=>hmem _ (h.nam t ht),h.nod⟩
 . exact h
theorem Dj {p r:SU} (h:CI p r):fP p.out.length p.out=r.out:=by
 have hp:(fP p.out.length p.out).Perm r.out:=(je _ _ (Nat.le_refl _)).trans h.perm.symm;refine List.Perm.eq_of_pairwise (le:=fun a b:Sm=>aV a.name b.name=true) (fun a b _ _ q1 q2=>?_) (D8 h.nod) h.srt hp;exact absurd (ec q1 q2) (by simp [jd])
end Go.Proofs.YtcpklndelobigaaGreatDoor
