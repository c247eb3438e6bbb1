/- A part of the proof: plain lemmas and walks. No condition. -/
import Derived.Test.YtcpklndelobigaaGreatDoorS1
set_option linter.all false
namespace Go.Proofs.YtcpklndelobigaaGreatDoor
open Go.Proofs.YtcpklndelobigaaGreatDoor.Abs
structure Dc where
 kind:Int
 name:List UInt8
 sum:Sm
 tab:Tb
 na:Int
 pos:Int
 fin:Int
structure Md where
 name:List UInt8
 decls:List Dc
structure Pb where
 doc:List UInt8
 pos:Int
 fin:Int
 code:Int
 names:List (List UInt8)
def Dc.zero:Dc:=⟨0,[],Sm.zero,Tb.zero,0,0,0⟩
def Md.zero:Md:=⟨[],[]⟩
def Pb.zero:Pb:=⟨[],0,0,0,[]⟩
def cp (l:List Co) (n:List UInt8):Co:=(l.find? (fun t=>t.name==n)).getD Co.zero
def aW (l:List Co) (n:List UInt8):Bool:=(l.find? (fun t=>t.name==n)).isSome
def gd (l:List Co) (n:List UInt8):Int:=match l.findIdx? (fun t=>t.name==n) with
 | some i=>(i:Nat)
 | none=>-1
theorem mB (l:List Co) (n:List UInt8):(gd l n<0/\aW l n=false)\/(0<=gd l n/\(gd l n).toNat<l.length/\aW l n=true/\l.getD (gd l n).toNat Co.zero=cp l n):=by
 unfold gd aW cp;cases h:l.findIdx? (fun t=>t.name==n) with
 | none =>
  grind
 | some i =>
  right;obtain ⟨h1,h2,h3⟩:=List.findIdx?_eq_some_iff_getElem.1 h
  have hf:l.find? (fun t=>t.name==n)=some l[i]:=by
   rw [List.find?_eq_some_iff_getElem]
   grind
  grind
def tgt (t:Tb) (w:Ty):Bool:=(Nat.beq t.key.length 1) && (aW t.cols (t.key.getD 0 []) && (cp t.cols (t.key.getD 0 [])).type.beq w)
abbrev Wr:=List (List (List UInt8))×Bool
def jJ (b:Bool) (w:List (List UInt8)) (o:List (List (List UInt8))):List (List (List UInt8)):=bif b then o++[w] else o
section
variable (O:List UInt8->Bool) (U:Ty->Bool) (Y:Ex->Bool) (fst:List UInt8->Option Tb)
def wrC (cols:List Co):Nat->Wr->Wr
 | 0,s=>s
 | i+1,s=>let s:=wrC cols i s;(jJ (!U (cols.getD i Co.zero).type) [(cols.getD i Co.zero).name] s.1,s.2 || (!O (cols.getD i Co.zero).name || aW (cols.take i) (cols.getD i Co.zero).name))
def wrK (t:Tb):Nat->Wr->Wr
 | 0,s=>s
 | i+1,s=>let s:=wrK t i s;(jJ ((t.key.take i).contains (t.key.getD i [])) [t.key.getD i []] s.1,s.2 || !aW t.cols (t.key.getD i []))
def fC (t:Tb) (i:Nat):Bool:=(t.refs.take i).any (fun x=>x.col==(t.refs.getD i Rf.zero).col) || ((fst (t.refs.getD i Rf.zero).tab).isSome && (aW t.cols (t.refs.getD i Rf.zero).col && !tgt ((fst (t.refs.getD i Rf.zero).tab).getD Tb.zero) (cp t.cols (t.refs.getD i Rf.zero).col).type))
def wrR (t:Tb):Nat->Wr->Wr
 | 0,s=>s
 | i+1,s=>let s:=wrR t i s;(jJ (fC fst t i) [(t.refs.getD i Rf.zero).col,(t.refs.getD i Rf.zero).tab] s.1,s.2 || (!(fst (t.refs.getD i Rf.zero).tab).isSome || !aW t.cols (t.refs.getD i Rf.zero).col))
def bn (t:Tb):Bool:=Nat.blt t.key.length 1 || Nat.blt 3 t.key.length
def wr1 (d:Dc):Wr:=wrC O U d.tab.cols d.tab.cols.length (jJ (Nat.blt 8 d.tab.cols.length) [] [],!O d.name || !Y d.tab.chk)
def wr2 (d:Dc):Wr:=wrK d.tab d.tab.key.length (jJ (bn d.tab) [] (wr1 O U Y d).1,(wr1 O U Y d).2)
def wr (d:Dc):Wr:=wrR fst d.tab d.tab.refs.length (wr2 O U Y d)
end
abbrev BP:=List (List UInt8×Bool)×List Pb
def cS:Int:=8
def L4 (doc:List UInt8) (d:Dc) (w:List (List UInt8)):Pb:=⟨doc,d.na,d.na+((d.name.length:Nat):Int),cS,w⟩
def eO (n:List UInt8) (s:BP):BP:=(bJ n true s.1,s.2)
def b9 (doc:List UInt8) (d:Dc) (w:List (List UInt8)) (s:BP):BP:=(bJ d.name true s.1,s.2++[L4 doc d w])
def aV (b:List (List UInt8×Bool)) (n:List UInt8):Bool:=(aL n b).getD false
section
variable (O:List UInt8->Bool) (U:Ty->Bool) (Y:Ex->Bool) (fst:List UInt8->Option Tb) (doc:List UInt8) (d:Dc)
def uE (i:Nat):Bool:=!O (d.tab.cols.getD i Co.zero).name || aW (d.tab.cols.take i) (d.tab.cols.getD i Co.zero).name
def kT:Nat->BP->BP
 | 0,s=>s
 | i+1,s=>let s1:=(bif uE O d i then eO d.name (kT i s) else kT i s);bif U (d.tab.cols.getD i Co.zero).type then s1 else b9 doc d [(d.tab.cols.getD i Co.zero).name] s1
def lB:Nat->BP->BP
 | 0,s=>s
 | i+1,s=>let s1:=(bif aW d.tab.cols (d.tab.key.getD i []) then lB i s else eO d.name (lB i s));bif (d.tab.key.take i).contains (d.tab.key.getD i []) then b9 doc d [d.tab.key.getD i []] s1 else s1
def pJ (i:Nat):Bool:=!(fst (d.tab.refs.getD i Rf.zero).tab).isSome || !aW d.tab.cols (d.tab.refs.getD i Rf.zero).col
def cz:Nat->BP->BP
 | 0,s=>s
 | i+1,s=>let s0:=cz i s;let s1:BP:=(bJ d.name (aV s0.1 d.name || pJ fst d i) s0.1,s0.2);bif fC fst d.tab i then b9 doc d [(d.tab.refs.getD i Rf.zero).col,(d.tab.refs.getD i Rf.zero).tab] s1 else s1
def jC (s:BP):BP:=kT O U doc d d.tab.cols.length (bif Nat.blt 8 d.tab.cols.length then b9 doc d [] s else s)
def q9 (s:BP):BP:=lB doc d d.tab.key.length (bif bn d.tab then b9 doc d [] s else s)
def md (s:BP):BP:=cz fst doc d d.tab.refs.length s
def jq (s:BP):BP:=let s1:=md fst doc d (q9 doc d (jC O U doc d s));bif !O d.name || !Y d.tab.chk then eO d.name s1 else s1
end
theorem mG {α:Type} (k k':List UInt8) (v:α):∀ l:List (List UInt8×α),aL k (bJ k' v l)=if k=k' then some v else aL k l
 | []=>by simp only [bJ,aL]
 | p::l=>by
  by_cases h:k'=p.1
  . simp only [bJ,if_pos h,aL]
    grind
  . simp only [bJ,if_neg h,aL];by_cases h2:k=p.1
    . grind
    . rw [if_neg h2,if_neg h2,mG k k' v l]
theorem dQ (k k':List UInt8) (v:Bool) (l):aV (bJ k' v l) k=if k=k' then v else aV l k:=by
 unfold aV;rw [mG];split <;> rfl
def eo (doc:List UInt8) (d:Dc) (s0 s:BP) (w:List (List (List UInt8))) (o:Bool):Prop :=
 s.2=s0.2++w.map (L4 doc d)/\∀ k,aV s.1 k=(aV s0.1 k || ((k==d.name) && (!w.isEmpty || o)))
theorem eo.bad {doc d s0 s w o} (h:eo doc d s0 s w o) (b:Bool):eo doc d s0 (bif b then eO d.name s else s) w (o || b):=by
 cases b with
 | false=>simpa using h
 | true =>
  refine ⟨h.1,fun k=>?_⟩;simp only [cond_true,eO,dQ];by_cases e:k=d.name
  . rw [if_pos e];simp [e]
  . rw [if_neg e,h.2 k,show (k==d.name)=false by simpa using e,Bool.false_and,Bool.false_and]
theorem eo.badN {doc d s0 s w o} (h:eo doc d s0 s w o) (b:Bool):eo doc d s0 (bif b then s else eO d.name s) w (o || !b):=by
 have:=h.bad (!b);cases b <;> simpa using this
theorem eo.set {doc d s0 s w o} (h:eo doc d s0 s w o) (b:Bool):eo doc d s0 (bJ d.name (aV s.1 d.name || b) s.1,s.2) w (o || b):=by
 refine ⟨h.1,fun k=>?_⟩;simp only [dQ];by_cases e:k=d.name
 . rw [if_pos e,h.2 d.name];subst e;simp [Bool.or_assoc]
 . rw [if_neg e,h.2 k,show (k==d.name)=false by simpa using e,Bool.false_and,Bool.false_and]
theorem eo.rep {doc d s0 s w o} (h:eo doc d s0 s w o) (b:Bool) (x):eo doc d s0 (bif b then b9 doc d x s else s) (jJ b x w) o:=by
 cases b with
 | false=>simpa [jJ] using h
 | true =>
  refine ⟨by simp [b9,jJ,h.1],fun k=>?_⟩;simp only [cond_true,b9,dQ,jJ];by_cases e:k=d.name
  . rw [if_pos e];simp [e]
  . rw [if_neg e,h.2 k,show (k==d.name)=false by simpa using e,Bool.false_and,Bool.false_and]
theorem eo.repN {doc d s0 s w o} (h:eo doc d s0 s w o) (b:Bool) (x):eo doc d s0 (bif b then s else b9 doc d x s) (jJ (!b) x w) o:=by
 have:=h.rep (!b) x;cases b <;> simpa using this
section
variable (O:List UInt8->Bool) (U:Ty->Bool) (Y:Ex->Bool) (fst:List UInt8->Option Tb) (doc:List UInt8) (d:Dc)
theorem O2 (e:Bool):∀ (cols:List Co) (i:Nat) (s:Wr),wrC O U cols i (s.1,s.2 || e)=((wrC O U cols i s).1,(wrC O U cols i s).2 || e)
 | _,0,s=>rfl
 | cols,i+1,s=>by simp only [wrC,O2 e cols i s,Bool.or_assoc,Bool.or_comm e]
theorem Pr (e:Bool) (t:Tb):∀ (i:Nat) (s:Wr),wrK t i (s.1,s.2 || e)=((wrK t i s).1,(wrK t i s).2 || e)
 | 0,s=>rfl
 | i+1,s=>by simp only [wrK,Pr e t i s,Bool.or_assoc,Bool.or_comm e]
theorem PB (e:Bool) (t:Tb):∀ (i:Nat) (s:Wr),wrR fst t i (s.1,s.2 || e)=((wrR fst t i s).1,(wrR fst t i s).2 || e)
 | 0,s=>rfl
 | i+1,s=>by simp only [wrR,PB e t i s,Bool.or_assoc,Bool.or_comm e]
theorem vF {s0 s w o} (h:eo doc d s0 s w o):∀ i,eo doc d s0 (kT O U doc d i s) (wrC O U d.tab.cols i (w,o)).1 (wrC O U d.tab.cols i (w,o)).2
 | 0=>h
 | i+1=>((vF h i).bad (uE O d i)).repN _ _
theorem wd {s0 s w o} (h:eo doc d s0 s w o):∀ i,eo doc d s0 (lB doc d i s) (wrK d.tab i (w,o)).1 (wrK d.tab i (w,o)).2
 | 0=>h
 | i+1=>((wd h i).badN _).rep _ _
theorem wc {s0 s w o} (h:eo doc d s0 s w o):∀ i,eo doc d s0 (cz fst doc d i s) (wrR fst d.tab i (w,o)).1 (wrR fst d.tab i (w,o)).2
 | 0=>h
 | i+1=>((wc h i).set _).rep _ _
abbrev M8 (O:List UInt8->Bool)(U:Ty->Bool)(d:Dc)(Y:Ex->Bool):=wrC O U d.tab.cols d.tab.cols.length (jJ (Nat.blt 8 d.tab.cols.length) [] [],!O d.name || !Y d.tab.chk)
abbrev Oe (O:List UInt8->Bool)(U:Ty->Bool)(d:Dc):=wrC O U d.tab.cols d.tab.cols.length (jJ (Nat.blt 8 d.tab.cols.length) [] [],false)
theorem px (s:BP):eo doc d s (jq O U Y fst doc d s) (wr O U Y fst d).1 (wr O U Y fst d).2:=by
 have h0:eo doc d s s [] false:=⟨by simp,fun k=>by simp⟩;have h1:=vF O U doc d (h0.rep (Nat.blt 8 d.tab.cols.length) []) d.tab.cols.length;have h2:=wd doc d (h1.rep (bn d.tab) []) d.tab.key.length;have h3:=wc fst doc d h2 d.tab.refs.length;have h4:=h3.bad (!O d.name || !Y d.tab.chk);have e1:=O2 O U (!O d.name || !Y d.tab.chk) d.tab.cols d.tab.cols.length (jJ (Nat.blt 8 d.tab.cols.length) [] [],false);have e2:=Pr (!O d.name || !Y d.tab.chk) d.tab d.tab.key.length (jJ (bn d.tab) [] (Oe O U d).1,(Oe O U d).2);have e3:=PB fst (!O d.name || !Y d.tab.chk) d.tab d.tab.refs.length (wrK d.tab d.tab.key.length (jJ (bn d.tab) [] (Oe O U d).1,(Oe O U d).2));simp only [Bool.false_or] at e1;have g2:=(congrArg (fun q:Wr=>wrK d.tab d.tab.key.length (jJ (bn d.tab) [] q.1,q.2)) e1).trans e2;have g3:=(congrArg (fun q:Wr=>wrR fst d.tab d.tab.refs.length q) g2).trans e3;show eo doc d s _ (wrR fst d.tab d.tab.refs.length (wrK d.tab d.tab.key.length (jJ (bn d.tab) [] (M8 O U d Y).1,(M8 O U d Y).2))).1 (wrR fst d.tab d.tab.refs.length (wrK d.tab d.tab.key.length (jJ (bn d.tab) [] (M8 O U d Y).1,(M8 O U d Y).2))).2;rw [g3];exact h4
end
def Tb.named (t:Tb) (n:List UInt8):Tb:=⟨n,t.cols,t.key,t.refs,t.chk⟩
section
variable {σ:Type} (f:List UInt8->Dc->σ->σ)
def dF (doc:List UInt8) (ds:List Dc):Nat->σ->σ
 | 0,s=>s
 | k+1,s=>f doc (ds.getD k Dc.zero) (dF doc ds k s)
def mF (V:List Md):Nat->σ->σ
 | 0,s=>s
 | i+1,s=>dF f (V.getD i Md.zero).name (V.getD i Md.zero).decls (V.getD i Md.zero).decls.length (mF V i s)
end
theorem xK {σ τ:Type} {f:List UInt8->Dc->σ->σ} {g:List UInt8->Dc->τ->τ} {R:σ->τ->Prop} (hR:∀ doc d s s',R s s'->R (f doc d s) (g doc d s')) (doc ds) {s s'} (h:R s s'):∀ k,R (dF f doc ds k s) (dF g doc ds k s')
 | 0=>h
 | k+1=>hR _ _ _ _ (xK hR doc ds h k)
theorem wU {σ τ:Type} {f:List UInt8->Dc->σ->σ} {g:List UInt8->Dc->τ->τ} {R:σ->τ->Prop} (hR:∀ doc d s s',R s s'->R (f doc d s) (g doc d s')) (V) {s s'} (h:R s s'):∀ i,R (mF f V i s) (mF g V i s')
 | 0=>h
 | i+1=>xK hR _ _ (wU hR V h i) _
def gtS (a b:List UInt8):Bool:=!(aS a b || a==b)
def ov (l:List Tb) (n:List UInt8):Nat->Nat
 | 0=>0
 | a+1=>if gtS (l.getD a Tb.zero).name n=true then ov l n a else a+1
def Hq (t:Tb) (l:List Tb):List Tb:=l.take (ov l t.name l.length)++[t]++l.drop (ov l t.name l.length)
theorem rc:∀ (a b c:List UInt8),aS a b=true->aS b c=true->aS a c=true
 | _,_,[],_,h=>by simp [aS,Op.bytesLess] at h
 | _,[],_::_,h,_=>by simp [aS,Op.bytesLess] at h
 | [],_::_,_::_,_,_=>by simp [aS,Op.bytesLess]
 | x::a,y::b,z::c,h1,h2=>by
  simp only [aS,Op.bytesLess,Bool.or_eq_true,Bool.and_eq_true,decide_eq_true_eq,beq_iff_eq] at h1 h2 ⊢;rcases h1 with h1|⟨rfl,h1⟩ <;> rcases h2 with h2|⟨rfl,h2⟩
  . grind
  . exact .inl h1
  . exact .inl h2
  . exact .inr ⟨rfl,rc a b c h1 h2⟩
theorem oH:∀ a:List UInt8,aS a a=false
 | []=>rfl
 | x::a=>by simp [aS,Op.bytesLess];exact oH a
theorem rj:∀ a b:List UInt8,aS a b=false->a=b\/aS b a=true
 | [],[],_=>.inl rfl
 | [],_::_,h=>by simp [aS,Op.bytesLess] at h
 | _::_,[],_=>.inr (by simp [aS,Op.bytesLess])
 | x::a,y::b,h=>by
  simp only [aS,Op.bytesLess,Bool.or_eq_false_iff,decide_eq_false_iff_not,Bool.and_eq_false_iff] at h;simp only [aS,Op.bytesLess,Bool.or_eq_true,Bool.and_eq_true,decide_eq_true_eq,beq_iff_eq];by_cases e:x=y
  . subst e;rcases h.2 with h2|h2
    . simp at h2
    . rcases rj a b h2 with rfl|h3
      . exact .inl rfl
      . exact .inr (.inr ⟨rfl,h3⟩)
  . grind
theorem dK {a b c:List UInt8} (h:aS a b=true) (k:aS b c=true):aS a c=true:=rc a b c h k
theorem eI (a:List UInt8):aS a a=false:=oH a
theorem fP {a b:List UInt8} (h:aS a b=false):a=b\/aS b a=true:=rj a b h
theorem se {a b:List UInt8}:gtS a b=true↔aS b a=true:=by
 unfold gtS;constructor
 . intro h;simp at h;rcases fP h.1 with e|e
   . exact absurd e h.2
   . exact e
 . intro h;simp;refine ⟨?_,fun e=>?_⟩
   . cases q:aS a b with
     | false=>rfl
     | true=>exact absurd (dK h q) (by simp [eI])
   . rw [e,eI] at h;exact absurd h zq
def CH (l:List Tb):Prop:=l.Pairwise (fun a b=>aS a.name b.name=true)
theorem DK (l:List Tb) (n):∀ a,ov l n a<=a
 | 0=>Nat.le_refl _
 | a+1=>by unfold ov;split <;> have:=DK l n a <;> omega
theorem DJ (l:List Tb) (n):∀ a k,ov l n a<=k->k<a->gtS (l.getD k Tb.zero).name n=true
 | 0,k,_,h=>by omega
 | a+1,k,h1,h2=>by
  unfold ov at h1;split at h1
  . rename_i hg;by_cases e:k=a
    . rw [e];exact hg
    . exact DJ l n a k h1 oq
  . omega
theorem Eo (l:List Tb) (n):∀ a,0<ov l n a->gtS (l.getD (ov l n a - 1) Tb.zero).name n=false
 | 0,h=>by simp [ov] at h
 | a+1,h=>by
  unfold ov at h ⊢;split
  . rename_i hg;rw [if_pos hg] at h;exact Eo l n a h
  . grind
theorem a7 {α:Type} (l:List α) (d:α) (i:Nat) (h:i<l.length):l.getD i d=l[i]:=by
 grind
theorem FG (t:Tb) (l:List Tb):(Hq t l).Perm (t::l):=by
 unfold Hq;have:=(List.perm_middle (a:=t) (l₁:=l.take (ov l t.name l.length)) (l₂:=l.drop (ov l t.name l.length)));rw [List.take_append_drop] at this;simpa using this
theorem IV {t:Tb} {l:List Tb} (h:CH l) (hn:∀ x∈l,x.name≠t.name):CH (Hq t l):=by
 have hp:=DK l t.name l.length;have hgt:=DJ l t.name l.length;have hng:=Eo l t.name l.length;unfold Hq;generalize ov l t.name l.length=p at *
 have hlow:∀ a∈l.take p,aS a.name t.name=true:=by
  intro a ha;obtain ⟨i,hi,rfl⟩:=List.getElem_of_mem ha;rw [List.length_take] at hi;rw [List.getElem_take];have hq:=hng oq;rw [a7 l _ _ oq] at hq
  have h1:aS (l[p - 1]' oq).name t.name=true:=by
   cases e:aS (l[p - 1]' oq).name t.name with
   | true=>rfl
   | false =>
    rcases fP e with e|e
    . grind
    . rw [se.2 e] at hq;exact absurd hq zq
  by_cases e:i=p - 1
  . subst e;exact h1
  . exact dK (List.pairwise_iff_getElem.1 h i (p - 1) oq oq oq) h1
 have hhi:∀ b∈l.drop p,aS t.name b.name=true:=by
  intro b hb;obtain ⟨i,hi,rfl⟩:=List.getElem_of_mem hb;rw [List.length_drop] at hi;rw [List.getElem_drop];have:=hgt (p+i) oq oq;rw [a7 l _ _ oq] at this;exact se.1 this
 refine List.pairwise_append.2 ⟨List.pairwise_append.2 ⟨h.sublist (List.take_sublist _ _),List.pairwise_singleton _ _,?_⟩,h.sublist (List.drop_sublist _ _),?_⟩
 . grind
 . intro a ha b hb;rcases List.mem_append.1 ha with ha|ha
   . exact dK (hlow a ha) (hhi b hb)
   . grind
structure SP where
 seen:List (List UInt8×Bool)
 out:List Tb
 bp:BP
structure SR where
 seen:List (List UInt8)
 out:List Tb
 ps:List Pb
section
variable (O:List UInt8->Bool) (U:Ty->Bool) (Y:Ex->Bool) (fst:List UInt8->Option Tb)
def dP (doc:List UInt8) (d:Dc) (s:SP):SP :=
 if d.kind=1/\aV s.seen d.name=false then
  if 8<(bJ d.name true s.seen).length then ⟨bJ d.name true s.seen,s.out,b9 doc d [] s.bp⟩
  else ⟨bJ d.name true s.seen,s.out++[d.tab.named d.name],jq O U Y fst doc d s.bp⟩
 else s
def E6 (n:Nat) (d:Dc):List (List (List UInt8)):=if 8<n then [[]] else (wr O U Y fst d).1
def dR (doc:List UInt8) (d:Dc) (s:SR):SR :=
 if d.kind=1/\s.seen.contains d.name=false then
  ⟨s.seen++[d.name],if (E6 O U Y fst (s.seen++[d.name]).length d).isEmpty=true/\(wr O U Y fst d).2=false then Hq (d.tab.named d.name) s.out else s.out,
   s.ps++(E6 O U Y fst (s.seen++[d.name]).length d).map (L4 doc d)⟩
 else s
end
structure H3 (sp:SP) (sr:SR):Prop where
 seen:sp.seen.map Prod.fst=sr.seen
 tr:∀ n,aV sp.seen n=sr.seen.contains n
 ps:sp.bp.2=sr.ps
 bad:∀ n,sr.seen.contains n=false->aV sp.bp.1 n=false
 nod:sp.out.Pairwise (fun a b=>a.name≠b.name)
 nam:∀ t∈sp.out,sr.seen.contains t.name=true
 len:sp.out.length<=8/\sp.out.length<=sp.seen.length
 perm:sr.out.Perm (sp.out.filter (fun t=>!aV sp.bp.1 t.name))
 srt:CH sr.out
theorem tD {α:Type} (n:List UInt8) (v:α):∀ l:List (List UInt8×α),(l.map Prod.fst).contains n=false->bJ n v l=l++[(n,v)]
 | [],_=>rfl
 | p::l,h=>by
  simp only [List.map_cons,List.contains_cons,Bool.or_eq_false_iff] at h;have hne:¬ n=p.1:=by simpa using h.1
  simp only [bJ,if_neg hne,tD n v l h.2,List.cons_append]
theorem ri {B B':List (List UInt8×Bool)} {l:List Tb} (h:∀ t∈l,aV B' t.name=aV B t.name):l.filter (fun t=>!aV B' t.name)=l.filter (fun t=>!aV B t.name) :=
 List.filter_congr fun t ht=>by rw [h t ht]
theorem AO (O:List UInt8->Bool) (U:Ty->Bool) (Y:Ex->Bool) (fst:List UInt8->Option Tb) (doc:List UInt8) (d:Dc) (s:SP) (s':SR) (h:H3 s s'):H3 (dP O U Y fst doc d s) (dR O U Y fst doc d s'):=by
 unfold dP dR;by_cases hk:d.kind=1/\aV s.seen d.name=false
 . have hc:s'.seen.contains d.name=false:=by rw [<- h.tr];exact hk.2
   rw [if_pos hk,if_pos (show d.kind=1/\s'.seen.contains d.name=false from ⟨hk.1,hc⟩)];have hm:bJ d.name true s.seen=s.seen++[(d.name,true)]:=tD _ _ _ (by rw [h.seen];exact hc);have hlen:(bJ d.name true s.seen).length=(s'.seen++[d.name]).length:=by rw [hm,<- h.seen];simp
   have hnm:∀ t∈s.out,¬ t.name=d.name:=fun t ht e=>by
    have:=h.nam t ht;rw [e,hc] at this;exact absurd this zq
   have hseen:(bJ d.name true s.seen).map Prod.fst=s'.seen++[d.name]:=by rw [hm,List.map_append,h.seen];rfl
   have htr:∀ n,aV (bJ d.name true s.seen) n=(s'.seen++[d.name]).contains n:=fun n=>by
    rw [dQ,h.tr n]
    grind
   have hmem:∀ t∈s.out,(s'.seen++[d.name]).contains t.name=true:=fun t ht=>by
    have:=h.nam t ht;simp at this ⊢;exact .inl this
   have hsl:(bJ d.name true s.seen).length=s.seen.length+1:=by rw [hm];simp
   have hcn:∀ n,(s'.seen++[d.name]).contains n=false->s'.seen.contains n=false/\¬ n=d.name:=fun n hn=>by simpa using hn
   by_cases h8:8<(bJ d.name true s.seen).length
   . rw [if_pos h8];have hw:E6 O U Y fst (s'.seen++[d.name]).length d=[[]]:=by unfold E6;rw [if_pos oq]
     rw [hw,if_neg zq];have hb:∀ n,¬ n=d.name->aV (b9 doc d [] s.bp).1 n=aV s.bp.1 n:=fun n hn=>by simp only [b9,dQ,if_neg hn]
     refine ⟨hseen,htr,by simp [b9,h.ps],fun n hn=>?_,h.nod,hmem,⟨h.len.1,by show s.out.length<=_;rw [hsl];have:=h.len.2;omega⟩,?_,h.srt⟩
     . rw [hb n (hcn n hn).2];exact h.bad n (hcn n hn).1
     . show s'.out.Perm (s.out.filter _);rw [ri fun t ht=>hb t.name (hnm t ht)];exact h.perm
   . rw [if_neg h8];have hw:E6 O U Y fst (s'.seen++[d.name]).length d=(wr O U Y fst d).1:=by unfold E6;rw [if_neg oq]
     rw [hw];obtain ⟨t1,t2⟩:=px O U Y fst doc d s.bp;have hb:∀ n,¬ n=d.name->aV (jq O U Y fst doc d s.bp).1 n=aV s.bp.1 n:=fun n hn=>by rw [t2];simp [hn]
     have hd:aV (jq O U Y fst doc d s.bp).1 d.name=(!(wr O U Y fst d).1.isEmpty || (wr O U Y fst d).2):=by rw [t2,h.bad d.name hc];simp
     have hf:(s.out.filter (fun t=>!aV (jq O U Y fst doc d s.bp).1 t.name))=s.out.filter (fun t=>!aV s.bp.1 t.name):=ri fun t ht=>hb t.name (hnm t ht)
     refine ⟨hseen,htr,by rw [t1,h.ps],fun n hn=>?_,?_,?_,?_,?_,?_⟩
     . rw [hb n (hcn n hn).2];exact h.bad n (hcn n hn).1
     . refine List.pairwise_append.2 ⟨h.nod,List.pairwise_singleton _ _,fun a ha b hb=>?_⟩;rw [List.mem_singleton] at hb;subst hb;exact hnm a ha
     . intro t ht;rcases List.mem_append.1 ht with ht|ht
       . exact hmem t ht
       . rw [List.mem_singleton] at ht;subst ht;simp [Tb.named]
     . simp only [List.length_append,List.length_singleton,hsl];have:=h.len;rw [hsl] at h8;omega
     . show List.Perm _ ((s.out++[d.tab.named d.name]).filter _);rw [List.filter_append,hf,List.filter_cons,List.filter_nil];by_cases hg:(wr O U Y fst d).1.isEmpty=true/\(wr O U Y fst d).2=false
       . rw [if_pos hg];have:(!aV (jq O U Y fst doc d s.bp).1 (d.tab.named d.name).name)=true:=by show (!aV _ d.name)=true;rw [hd,hg.1,hg.2];rfl
         rw [if_pos this];exact ((FG _ _).trans (h.perm.cons _)).trans (List.perm_append_singleton _ _).symm
       . rw [if_neg hg]
         have:¬ (!aV (jq O U Y fst doc d s.bp).1 (d.tab.named d.name).name)=true:=by
          show ¬ (!aV _ d.name)=true;rw [hd]
          grind
         rw [if_neg this,List.append_nil];exact h.perm
     . by_cases hg:(wr O U Y fst d).1.isEmpty=true/\(wr O U Y fst d).2=false
       . rw [if_pos hg];refine IV h.srt fun x hx=>?_
         have:=h.perm.mem_iff.1 hx;exact hnm x (List.mem_filter.1 this).1
       . rw [if_neg hg];exact h.srt
 . have hc:¬ (d.kind=1/\s'.seen.contains d.name=false):=by rw [<- h.tr];exact hk
   grind
theorem HT:H3 ⟨[],[],([],[])⟩ ⟨[],[],[]⟩:=⟨rfl,fun _=>rfl,rfl,fun _ _=>rfl,List.Pairwise.nil,by simp,by simp,by simp,List.Pairwise.nil⟩
def nmF (B:List (List UInt8×Bool)) (l:List Tb):Nat->List (List UInt8×Bool)
 | 0=>[]
 | i+1=>bJ (l.getD i Tb.zero).name (!aV B (l.getD i Tb.zero).name) (nmF B l i)
def dC (B N:List (List UInt8×Bool)) (t:Tb):Bool:=aV B t.name || t.refs.any (fun r=>!aV N r.tab)
def kg (B:List (List UInt8×Bool)) (l:List Tb):List Tb:=l.filter (fun t=>!dC B (nmF B l l.length) t)
def cY (l:List Tb) (n:List UInt8):Bool:=l.any (fun t=>t.name==n)
def itP (B:List (List UInt8×Bool)):Nat->List Tb->List Tb
 | 0,l=>l
 | k+1,l=>kg B (itP B k l)
theorem Et (B:List (List UInt8×Bool)) (l:List Tb) (n):∀ i,i<=l.length->aV (nmF B l i) n=(cY (l.take i) n && !aV B n)
 | 0,_=>by simp [nmF,cY,aV,aL]
 | i+1,h=>by
  have ht:l.take (i+1)=l.take i++[l.getD i Tb.zero]:=by rw [a7 l _ _ oq];exact List.take_succ_eq_append_getElem oq
  rw [nmF,dQ,Et B l n i oq,ht];by_cases e:n=(l.getD i Tb.zero).name
  . rw [if_pos e];simp [cY,e]
  . rw [if_neg e];have:((l.getD i Tb.zero).name==n)=false:=by simpa using fun q=>e q.symm
    simp only [cY,List.any_append,List.any_cons,List.any_nil,this,Bool.or_false]
theorem zS (B:List (List UInt8×Bool)) (l:List Tb):kg B l=l.filter (fun t=>!aV B t.name && t.refs.all (fun r=>cY l r.tab && !aV B r.tab)):=by
 unfold kg;refine List.filter_congr fun t _=>?_
 have:∀ rs:List Rf,(!rs.any fun r=>!aV (nmF B l l.length) r.tab)=rs.all fun r=>cY l r.tab && !aV B r.tab:=by
  intro rs
  induction rs with
  | nil=>rfl
  | cons r rs ih=>rw [List.any_cons,List.all_cons,<- ih,Et B l r.tab l.length (Nat.le_refl _),List.take_length];cases cY l r.tab <;> cases aV B r.tab <;> simp
 unfold dC;rw [Bool.not_or,this]
theorem yG {l r:List Tb} (h:l.Sublist r) (e:r.length<=l.length):l=r:=h.eq_of_length_le e
def sO (l:List Tb) (j:Nat):List Tb:=(l.set j (l.getD (j - 1) Tb.zero)).set (j - 1) (l.getD j Tb.zero)
def iN:Nat->List Tb->List Tb
 | 0,l=>l
 | j+1,l=>if aS (l.getD (j+1) Tb.zero).name (l.getD j Tb.zero).name=true then iN j (sO l (j+1)) else l
def jL:Nat->List Tb->List Tb
 | 0,l=>l
 | i+1,l=>iN i (jL i l)
theorem oM (l:List Tb) (j):(sO l j).length=l.length:=by simp [sO]
theorem IW {α:Type} (l:List α) (d x:α) (i k:Nat) (h:i<l.length):(l.set i x).getD k d=if k=i then x else l.getD k d:=by
 grind
theorem pc (l:List Tb) {j k:Nat} (hj:j+1<l.length):(sO l (j+1)).getD k Tb.zero=if k=j+1 then l.getD j Tb.zero else if k=j then l.getD (j+1) Tb.zero else l.getD k Tb.zero:=by
 unfold sO
 grind
theorem E2 (l:List Tb) {j:Nat} (hj:j+1<l.length):(sO l (j+1)).Perm l:=by
 have e:sO l (j+1)=(l.set (j+1) l[j]).set j l[j+1]:=by
  unfold sO;rw [Nat.add_sub_cancel,a7 l _ _ oq,a7 l _ _ hj]
 rw [e,List.set_comm _ _ oq];exact List.set_set_perm oq hj
theorem zT:∀ (j:Nat) (l:List Tb),(iN j l).length=l.length
 | 0,l=>rfl
 | j+1,l=>by unfold iN;split;rw [zT j,oM];rfl
theorem j6 (l:List Tb):∀ i,(jL i l).length=l.length
 | 0=>rfl
 | i+1=>by rw [jL,zT,j6 l i]
theorem vi:∀ (j:Nat) (l:List Tb),j<l.length->(iN j l).Perm l
 | 0,l,_=>List.Perm.refl _
 | j+1,l,h=>by
  unfold iN;split
  . exact (vi j _ (by rw [oM];omega)).trans (E2 l h)
  . exact List.Perm.refl _
theorem mD (l:List Tb):∀ i,i<=l.length->(jL i l).Perm l
 | 0,_=>List.Perm.refl _
 | i+1,h=>(vi i _ (by rw [j6];omega)).trans (mD l i oq)
def leN (a b:Tb):Prop:=aS b.name a.name=false
theorem Ra {a b c:Tb} (h:leN a b) (k:leN b c):leN a c:=by
 unfold leN at *;cases e:aS c.name a.name with
 | false=>rfl
 | true =>
  rcases fP h with q|q
  . grind
  . exact absurd (dK e q) (by simp [k])
theorem Rj {a b:Tb} (h:aS a.name b.name=true):leN a b:=by
 unfold leN;cases e:aS b.name a.name with
 | false=>rfl
 | true=>exact absurd (dK h e) (by simp [eI])
def Mid (l:List Tb) (i j:Nat):Prop:=(∀ a b,a<b->b<=i->a≠j->b≠j->leN (l.getD a Tb.zero) (l.getD b Tb.zero))/\∀ b,j<b->b<=i->leN (l.getD j Tb.zero) (l.getD b Tb.zero)
theorem Dk {i:Nat}:∀ (j:Nat) (l:List Tb),j<=i->i<l.length->Mid l i j->∀ a b,a<b->b<=i->leN ((iN j l).getD a Tb.zero) ((iN j l).getD b Tb.zero)
 | 0,l,_,_,h,a,b,hab,hb=>by
  show leN (l.getD a Tb.zero) (l.getD b Tb.zero);by_cases e:a=0
  . subst e;exact h.2 b hab hb
  . exact h.1 a b hab hb e oq
 | j+1,l,hj,hi,h,a,b,hab,hb=>by
  unfold iN;split
  . rename_i hlt;refine Dk j _ oq (by rw [oM];exact hi) ⟨fun a b hab hb ha hb'=>?_,fun b hjb hb=>?_⟩ a b hab hb
    . rw [pc l oq,pc l oq,if_neg ha,if_neg hb'];by_cases e1:a=j+1
      . rw [if_pos e1,if_neg oq];exact h.1 j b oq hb oq oq
      . rw [if_neg e1];by_cases e2:b=j+1
        . rw [if_pos e2];exact h.1 a j oq oq e1 oq
        . rw [if_neg e2];exact h.1 a b hab hb e1 e2
    . rw [pc l oq,pc l oq,if_neg oq,if_pos rfl];by_cases e2:b=j+1
      . rw [if_pos e2];exact Rj hlt
      . rw [if_neg e2,if_neg oq];exact h.2 b oq hb
  . rename_i hlt;have hle:leN (l.getD j Tb.zero) (l.getD (j+1) Tb.zero):=by unfold leN;simpa using hlt
    by_cases e1:a=j+1
    . subst e1;exact h.2 b hab hb
    . by_cases e2:b=j+1
      . subst e2;by_cases e3:a=j
        . subst e3;exact hle
        . exact Ra (h.1 a j oq oq e1 oq) hle
      . exact h.1 a b hab hb e1 e2
theorem A3 (l:List Tb):∀ i,i<=l.length->∀ a b,a<b->b<i->leN ((jL i l).getD a Tb.zero) ((jL i l).getD b Tb.zero)
 | 0,_,a,b,_,h=>by omega
 | i+1,hi,a,b,hab,hb=>by
  refine Dk i (jL i l) (Nat.le_refl _) (by rw [j6];omega) ⟨fun a b hab hb ha hb'=>?_,fun b h1 h2=>by omega⟩ a b hab oq;exact A3 l i oq a b hab oq
theorem Bn {l:List Tb} (h:l.Pairwise (fun a b=>a.name≠b.name)):CH (jL l.length l):=by
 have hp:=mD l l.length (Nat.le_refl _);have hn:(jL l.length l).Pairwise (fun a b=>a.name≠b.name):=hp.symm.pairwise h (fun h e=>h e.symm);refine List.pairwise_iff_getElem.2 fun a b ha hb hab=>?_
 have h1:=A3 l l.length (Nat.le_refl _) a b hab (by rw [j6] at hb;exact hb);rw [a7 _ _ _ ha,a7 _ _ _ hb] at h1;rcases fP h1 with e|e
 . exact absurd e.symm (List.pairwise_iff_getElem.1 hn a b ha hb hab)
 . exact e
def gZ (n:List UInt8) (ds:List Dc):Option Tb:=(ds.find? (fun d=>d.kind==1 && d.name==n)).map Dc.tab
def jh (n:List UInt8):List Md->Option Tb
 | []=>none
 | m::r=>match gZ n m.decls with
  | some t=>some t
  | none=>jh n r
def orE {α:Type}:Option α->Option α->Option α
 | some x,_=>some x
 | none,y=>y
theorem iG (n:List UInt8) (m:Md) (r:List Md):jh n (m::r)=orE (gZ n m.decls) (jh n r):=by
 rw [jh];cases gZ n m.decls <;> rfl
theorem oS (n:List UInt8):∀ a b,jh n (a++b)=orE (jh n a) (jh n b)
 | [],b=>rfl
 | m::a,b=>by
  rw [List.cons_append,iG,iG,oS n a b];cases gZ n m.decls <;> rfl
theorem oZ (n:List UInt8) (a b:List Dc):gZ n (a++b)=orE (gZ n a) (gZ n b):=by
 unfold gZ;rw [List.find?_append];cases a.find? _ <;> rfl
theorem cI {α:Type} (l:List α) (d:α) (i:Nat) (h:i<l.length):l.take (i+1)=l.take i++[l.getD i d]:=by
 rw [a7 l d i h];exact List.take_succ_eq_append_getElem h
theorem ue (n:List UInt8) (d:Dc):gZ n [d]=if d.kind=1/\d.name=n then some d.tab else none:=by
 unfold gZ
 grind
theorem vB {n:List UInt8} {ds:List Dc} {k:Nat} (hk:k<ds.length) (h:gZ n (ds.take k)=none) (hn:¬ ((ds.getD k Dc.zero).kind=1/\(ds.getD k Dc.zero).name=n)):gZ n (ds.take (k+1))=none:=by
 rw [cI ds Dc.zero k hk,oZ,h,ue,if_neg hn];rfl
abbrev kz (V:List Md)(i:Nat):=V.getD i Md.zero
theorem GL {n:List UInt8} {V:List Md} {i:Nat} (hi:i<V.length) (h:jh n (V.take i)=none) (hd:gZ n (kz V i).decls=none):jh n (V.take (i+1))=none:=by
 rw [cI V Md.zero i hi,oS,h,iG,hd];rfl
theorem Oa {n:List UInt8} {V:List Md} {i k:Nat} (hi:i<V.length) (hk:k<(kz V i).decls.length) (h:jh n (V.take i)=none) (hd:gZ n ((kz V i).decls.take k)=none)
 (h1:((kz V i).decls.getD k Dc.zero).kind=1) (h2:((kz V i).decls.getD k Dc.zero).name=n):jh n V=some ((kz V i).decls.getD k Dc.zero).tab:=by
 have e1:V=V.take i++(V.getD i Md.zero::V.drop (i+1)):=by
  rw [a7 V _ _ hi,<- List.drop_eq_getElem_cons hi,List.take_append_drop]
 have e2:(kz V i).decls=(kz V i).decls.take k++((kz V i).decls.getD k Dc.zero::(kz V i).decls.drop (k+1)):=by
  rw [a7 (kz V i).decls _ _ hk,<- List.drop_eq_getElem_cons hk,List.take_append_drop]
 have e3:gZ n (kz V i).decls=some ((kz V i).decls.getD k Dc.zero).tab:=by
  have:=congrArg (gZ n) e2;rw [oZ,hd,<- List.singleton_append,oZ,ue,if_pos ⟨h1,h2⟩] at this;exact this
 have:=congrArg (jh n) e1;rw [oS,h,iG,e3] at this;exact this
abbrev Tm_:=List (List UInt8×Tb)
def tmf (_:List UInt8) (d:Dc) (T:Tm_):Tm_:=if aL d.name T=none/\d.kind=1 then bJ d.name d.tab T else T
theorem Dv (n doc:List UInt8) (ds:List Dc) (T:Tm_):∀ k,k<=ds.length->aL n (dF tmf doc ds k T)=orE (aL n T) (gZ n (ds.take k))
 | 0,_=>by
  show aL n T=orE (aL n T) none;cases aL n T <;> rfl
 | k+1,h=>by
  have ih:=fun m=>Dv m doc ds T k oq
  rw [cI ds Dc.zero k oq,oZ,ue,dF];by_cases hc:aL (ds.getD k Dc.zero).name (dF tmf doc ds k T)=none/\(ds.getD k Dc.zero).kind=1
  . show aL n (if aL (ds.getD k Dc.zero).name (dF tmf doc ds k T)=none/\(ds.getD k Dc.zero).kind=1 then _ else _)=_;rw [if_pos hc,mG];by_cases e:n=(ds.getD k Dc.zero).name
    . rw [if_pos e,if_pos ⟨hc.2,e.symm⟩];have:=hc.1;rw [ih] at this;rw [e];cases h1:aL (ds.getD k Dc.zero).name T with
      | some x=>rw [h1] at this;cases this
      | none =>
       rw [h1] at this;have h2:gZ (ds.getD k Dc.zero).name (ds.take k)=none:=this;rw [h2];rfl
    . rw [if_neg e,if_neg (fun q=>e q.2.symm),ih n];cases aL n T <;> cases gZ n (ds.take k) <;> rfl
  . show aL n (if aL (ds.getD k Dc.zero).name (dF tmf doc ds k T)=none/\(ds.getD k Dc.zero).kind=1 then _ else _)=_;rw [if_neg hc,ih n];by_cases e:(ds.getD k Dc.zero).kind=1/\(ds.getD k Dc.zero).name=n
    . rw [if_pos e];have h1:aL (ds.getD k Dc.zero).name (dF tmf doc ds k T)≠none:=fun q=>hc ⟨q,e.1⟩
      rw [ih,e.2] at h1;cases h2:aL n T with
      | some x=>rfl
      | none =>
       rw [h2] at h1;cases h3:gZ n (ds.take k) with
       | some x=>rfl
       | none=>rw [h3] at h1;exact absurd rfl h1
    . rw [if_neg e];cases aL n T <;> cases gZ n (ds.take k) <;> rfl
theorem Dn (n:List UInt8) (V:List Md):∀ i,i<=V.length->aL n (mF tmf V i [])=jh n (V.take i)
 | 0,_=>rfl
 | i+1,h=>by
  rw [mF,Dv n _ _ _ _ (Nat.le_refl _),List.take_length,Dn n V i oq,cI V Md.zero i oq,oS,iG];cases jh n (V.take i) <;> cases gZ n (V.getD i Md.zero).decls <;> rfl
theorem Ib (V:List Md):(fun n=>aL n (mF tmf V V.length []))=fun n=>jh n V:=by
 funext n;rw [Dn n V _ (Nat.le_refl _),List.take_length]
end Go.Proofs.YtcpklndelobigaaGreatDoor
