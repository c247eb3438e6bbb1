/- A part of the proof: plain lemmas and walks. No condition. -/
import Derived.Test.YtcpklndelobigaaGreatDoorM8
set_option linter.all false
namespace Go.Proofs.YtcpklndelobigaaGreatDoor
open Go.Proofs.YtcpklndelobigaaGreatDoor.Abs
def o7 (l:List Sm) (n:List UInt8):Nat->Nat
 | 0=>0
 | a+1=>if gtS (l.getD a Sm.zero).name n=true then o7 l n a else a+1
def CG (t:Sm) (l:List Sm):List Sm:=l.take (o7 l t.name l.length)++[t]++l.drop (o7 l t.name l.length)
def Cg (l:List Sm):Prop:=l.Pairwise (fun a b=>aS a.name b.name=true)
theorem Eg (l:List Sm) (n):∀ a,o7 l n a<=a
 | 0=>Nat.le_refl _
 | a+1=>by unfold o7;split <;> have:=Eg l n a <;> omega
theorem Dl (l:List Sm) (n):∀ a k,o7 l n a<=k->k<a->gtS (l.getD k Sm.zero).name n=true
 | 0,k,_,h=>by omega
 | a+1,k,h1,h2=>by
  unfold o7 at h1;split at h1
  . rename_i hg;by_cases e:k=a
    . rw [e];exact hg
    . exact Dl l n a k h1 oq
  . omega
theorem Er (l:List Sm) (n):∀ a,0<o7 l n a->gtS (l.getD (o7 l n a - 1) Sm.zero).name n=false
 | 0,h=>by simp [o7] at h
 | a+1,h=>by
  unfold o7 at h ⊢;split
  . rename_i hg;rw [if_pos hg] at h;exact Er l n a h
  . grind
theorem Fc (t:Sm) (l:List Sm):(CG t l).Perm (t::l):=by
 unfold CG;have:=(List.perm_middle (a:=t) (l₁:=l.take (o7 l t.name l.length)) (l₂:=l.drop (o7 l t.name l.length)));rw [List.take_append_drop] at this;simpa using this
theorem I1 {t:Sm} {l:List Sm} (h:Cg l) (hn:∀ x∈l,x.name≠t.name):Cg (CG t l):=by
 have hp:=Eg l t.name l.length;have hgt:=Dl l t.name l.length;have hng:=Er l t.name l.length;unfold CG;generalize o7 l t.name l.length=p at *
 have hlow:∀ a∈l.take p,aS a.name t.name=true:=by
  intro a ha;obtain ⟨i,hi,rfl⟩:=List.getElem_of_mem ha;rw [List.length_take] at hi;rw [List.getElem_take];have hq:=hng oq;rw [a7 l _ _ oq] at hq
  have h1:aS (l[p - 1]' oq).name t.name=true:=by
   cases e:aS (l[p - 1]' oq).name t.name with
   | true=>rfl
   | false =>
    rcases fP e with e|e
    . grind
    . rw [se.2 e] at hq;exact absurd hq zq
  by_cases e:i=p - 1
  . subst e;exact h1
  . exact dK (List.pairwise_iff_getElem.1 h i (p - 1) oq oq oq) h1
 have hhi:∀ b∈l.drop p,aS t.name b.name=true:=by
  intro b hb;obtain ⟨i,hi,rfl⟩:=List.getElem_of_mem hb;rw [List.length_drop] at hi;rw [List.getElem_drop];have:=hgt (p+i) oq oq;rw [a7 l _ _ oq] at this;exact se.1 this
 refine List.pairwise_append.2 ⟨List.pairwise_append.2 ⟨h.sublist (List.take_sublist _ _),List.pairwise_singleton _ _,?_⟩,h.sublist (List.drop_sublist _ _),?_⟩
 . grind
 . intro a ha b hb;rcases List.mem_append.1 ha with ha|ha
   . exact dK (hlow a ha) (hhi b hb)
   . grind
def uk (l:List Sm) (j:Nat):List Sm:=(l.set j (l.getD (j - 1) Sm.zero)).set (j - 1) (l.getD j Sm.zero)
def i7:Nat->List Sm->List Sm
 | 0,l=>l
 | j+1,l=>if aS (l.getD (j+1) Sm.zero).name (l.getD j Sm.zero).name=true then i7 j (uk l (j+1)) else l
def jK:Nat->List Sm->List Sm
 | 0,l=>l
 | i+1,l=>i7 i (jK i l)
theorem n7 (l:List Sm) (j):(uk l j).length=l.length:=by simp [uk]
theorem ol (l:List Sm) {j k:Nat} (hj:j+1<l.length):(uk l (j+1)).getD k Sm.zero=if k=j+1 then l.getD j Sm.zero else if k=j then l.getD (j+1) Sm.zero else l.getD k Sm.zero:=by
 unfold uk
 grind
theorem FU (l:List Sm) {j:Nat} (hj:j+1<l.length):(uk l (j+1)).Perm l:=by
 have e:uk l (j+1)=(l.set (j+1) l[j]).set j l[j+1]:=by
  unfold uk;rw [Nat.add_sub_cancel,a7 l _ _ oq,a7 l _ _ hj]
 rw [e,List.set_comm _ _ oq];exact List.set_set_perm oq hj
theorem Bm:∀ (j:Nat) (l:List Sm),(i7 j l).length=l.length
 | 0,l=>rfl
 | j+1,l=>by unfold i7;split;rw [Bm j,n7];rfl
theorem kp (l:List Sm):∀ i,(jK i l).length=l.length
 | 0=>rfl
 | i+1=>by rw [jK,Bm,kp l i]
theorem wA:∀ (j:Nat) (l:List Sm),j<l.length->(i7 j l).Perm l
 | 0,l,_=>List.Perm.refl _
 | j+1,l,h=>by
  unfold i7;split
  . exact (wA j _ (by rw [n7];omega)).trans (FU l h)
  . exact List.Perm.refl _
theorem iL (l:List Sm):∀ i,i<=l.length->(jK i l).Perm l
 | 0,_=>List.Perm.refl _
 | i+1,h=>(wA i _ (by rw [kp];omega)).trans (iL l i oq)
def leM (a b:Sm):Prop:=aS b.name a.name=false
theorem Qu {a b c:Sm} (h:leM a b) (k:leM b c):leM a c:=by
 unfold leM at *;cases e:aS c.name a.name with
 | false=>rfl
 | true =>
  rcases fP h with q|q
  . grind
  . exact absurd (dK e q) (by simp [k])
theorem Rv {a b:Sm} (h:aS a.name b.name=true):leM a b:=by
 unfold leM;cases e:aS b.name a.name with
 | false=>rfl
 | true=>exact absurd (dK h e) (by simp [eI])
def Xq (l:List Sm) (i j:Nat):Prop:=(∀ a b,a<b->b<=i->a≠j->b≠j->leM (l.getD a Sm.zero) (l.getD b Sm.zero))/\∀ b,j<b->b<=i->leM (l.getD j Sm.zero) (l.getD b Sm.zero)
theorem AR {i:Nat}:∀ (j:Nat) (l:List Sm),j<=i->i<l.length->Xq l i j->∀ a b,a<b->b<=i->leM ((i7 j l).getD a Sm.zero) ((i7 j l).getD b Sm.zero)
 | 0,l,_,_,h,a,b,hab,hb=>by
  show leM (l.getD a Sm.zero) (l.getD b Sm.zero);by_cases e:a=0
  . subst e;exact h.2 b hab hb
  . exact h.1 a b hab hb e oq
 | j+1,l,hj,hi,h,a,b,hab,hb=>by
  unfold i7;split
  . rename_i hlt;refine AR j _ oq (by rw [n7];exact hi) ⟨fun a b hab hb ha hb'=>?_,fun b hjb hb=>?_⟩ a b hab hb
    . rw [ol l oq,ol l oq,if_neg ha,if_neg hb'];by_cases e1:a=j+1
      . rw [if_pos e1,if_neg oq];exact h.1 j b oq hb oq oq
      . rw [if_neg e1];by_cases e2:b=j+1
        . rw [if_pos e2];exact h.1 a j oq oq e1 oq
        . rw [if_neg e2];exact h.1 a b hab hb e1 e2
    . rw [ol l oq,ol l oq,if_neg oq,if_pos rfl];by_cases e2:b=j+1
      . rw [if_pos e2];exact Rv hlt
      . rw [if_neg e2,if_neg oq];exact h.2 b oq hb
  . rename_i hlt;have hle:leM (l.getD j Sm.zero) (l.getD (j+1) Sm.zero):=by unfold leM;simpa using hlt
    by_cases e1:a=j+1
    . subst e1;exact h.2 b hab hb
    . by_cases e2:b=j+1
      . subst e2;by_cases e3:a=j
        . subst e3;exact hle
        . exact Qu (h.1 a j oq oq e1 oq) hle
      . exact h.1 a b hab hb e1 e2
theorem AX (l:List Sm):∀ i,i<=l.length->∀ a b,a<b->b<i->leM ((jK i l).getD a Sm.zero) ((jK i l).getD b Sm.zero)
 | 0,_,a,b,_,h=>by omega
 | i+1,hi,a,b,hab,hb=>by
  refine AR i (jK i l) (Nat.le_refl _) (by rw [kp];omega) ⟨fun a b hab hb ha hb'=>?_,fun b h1 h2=>by omega⟩ a b hab oq;exact AX l i oq a b hab oq
theorem zA {l:List Sm} (h:l.Pairwise (fun a b=>a.name≠b.name)):Cg (jK l.length l):=by
 have hp:=iL l l.length (Nat.le_refl _);have hn:(jK l.length l).Pairwise (fun a b=>a.name≠b.name):=hp.symm.pairwise h (fun h e=>h e.symm);refine List.pairwise_iff_getElem.2 fun a b ha hb hab=>?_
 have h1:=AX l l.length (Nat.le_refl _) a b hab (by rw [kp] at hb;exact hb);rw [a7 _ _ _ ha,a7 _ _ _ hb] at h1;rcases fP h1 with e|e
 . exact absurd e.symm (List.pairwise_iff_getElem.1 hn a b ha hb hab)
 . exact e
structure SU where
 seen:List (List UInt8)
 ct:List (List UInt8)
 out:List Sm
def rt (d:Dc):Sm:=⟨d.name,d.sum.ctors⟩
section
variable (D:List UInt8->Bool) (cok:Ct->Bool)
def okC (C:List (List UInt8)) (l:List Ct):Nat->Bool
 | 0=>true
 | j+1=>okC C l j && (cok (l.getD j Ct.zero) && !((l.take j).map Ct.name).contains (l.getD j Ct.zero).name && !C.contains (l.getD j Ct.zero).name)
def okS (C:List (List UInt8)) (d:Dc):Bool:=D d.name && okC cok C d.sum.ctors d.sum.ctors.length && !d.sum.ctors.isEmpty
def dSm (ins:Sm->List Sm->List Sm) (_:List UInt8) (d:Dc) (s:SU):SU :=
 if d.kind=0/\s.seen.contains d.name=false then
  if okS D cok s.ct d=true then ⟨s.seen++[d.name],s.ct++d.sum.ctors.map Ct.name,ins (rt d) s.out⟩
  else ⟨s.seen++[d.name],s.ct,s.out⟩
 else s
end
def pm (t:Sm) (l:List Sm):List Sm:=l++[t]
structure IJ (p r:SU):Prop where
 seen:p.seen=r.seen
 ct:p.ct=r.ct
 perm:r.out.Perm p.out
 srt:Cg r.out
 nam:∀ t∈p.out,p.seen.contains t.name=true
 nod:p.out.Pairwise (fun a b=>a.name≠b.name)
theorem Fb:IJ ⟨[],[],[]⟩ ⟨[],[],[]⟩:=⟨rfl,rfl,List.Perm.refl _,List.Pairwise.nil,fun _ h=>(by cases h),List.Pairwise.nil⟩
theorem vM (D:List UInt8->Bool) (cok:Ct->Bool) (doc:List UInt8) (d:Dc) (s s':SU) (h:IJ s s'):IJ (dSm D cok pm doc d s) (dSm D cok CG doc d s'):=by
 have hmem:∀ n:List UInt8,s.seen.contains n=true->(s.seen++[d.name]).contains n=true:=fun n hn=>by simp at hn ⊢;exact .inl hn
 unfold dSm;rw [<- h.seen,<- h.ct];split
 . rename_i hk;split
   . have hnm:∀ t∈s.out,¬ t.name=d.name:=fun t ht q=>by
      have:=h.nam t ht;rw [q,hk.2] at this;exact absurd this zq
     refine ⟨rfl,rfl,?_,?_,?_,?_⟩
     . exact (Fc _ _).trans ((h.perm.cons _).trans (List.perm_append_singleton _ _).symm)
     . exact I1 h.srt fun x hx=>hnm x (h.perm.mem_iff.1 hx)
     . intro t ht;rcases List.mem_append.1 ht with q|q
       . exact hmem _ (h.nam t q)
       . rw [List.mem_singleton] at q;subst q;simp [rt]
     . refine List.pairwise_append.2 ⟨h.nod,List.pairwise_singleton _ _,fun a ha b hb=>?_⟩;rw [List.mem_singleton] at hb;subst hb;exact hnm a ha
   . exact ⟨rfl,rfl,h.perm,h.srt,fun t ht=>hmem _ (h.nam t ht),h.nod⟩
 . exact h
end Go.Proofs.YtcpklndelobigaaGreatDoor
namespace Go.Proofs.YtcpklndelobigaaGreatDoor
open Go.Proofs.YtcpklndelobigaaGreatDoor.Abs
set_option maxRecDepth 20000
set_option maxHeartbeats 4000000
def sm1 (l:List (List UInt8)):List (List UInt8×Bool):=l.map (fun n=>(n,true))
theorem mg:∀ (l:List (List UInt8)) (n:List UInt8),aV (sm1 l) n=l.contains n
 | [],n=>rfl
 | x::l,n=>by
  have ih:=mg l n;simp only [aV,sm1,List.map_cons,aL,List.contains_cons] at ih ⊢
  grind
theorem za:∀ (l:List (List UInt8)) (n:List UInt8),l.contains n=false->bJ n true (sm1 l)=sm1 (l++[n])
 | [],n,_=>rfl
 | x::l,n,h=>by
  rw [List.contains_cons,Bool.or_eq_false_iff] at h;have ih:=za l n h.2;have hx:¬ n=x:=by simpa using h.1
  simp only [sm1,List.map_cons,List.cons_append,bJ] at ih ⊢;rw [if_neg hx,ih]
theorem DG (l:List (List UInt8)):(sm1 l).length=l.length:=List.length_map ..
def CtI (ct L:List (List UInt8)) (lf:List Nat) (C:List (List UInt8×Bool)):Prop:=(∀ i∈lf,i<L.length)/\∀ n,aV C n=(ct.contains n || (List.range L.length).any (fun i=>!lf.contains i && (L.getD i []==n)))
def CtO (ct:List (List UInt8)) (C:List (List UInt8×Bool)):Prop:=∀ n,aV C n=ct.contains n
theorem UF {ct L:List (List UInt8)} {C:List lE} (h:CtO ct C):CtI ct L (List.range L.length) C:=by
 refine ⟨fun i hi=>List.mem_range.1 hi,fun n=>?_⟩
 have:(List.range L.length).any (fun i=>!(List.range L.length).contains i && (L.getD i []==n))=false:=by
  grind
 rw [this,Bool.or_false];exact h n
theorem Tj {ct L:List (List UInt8)} {lf:List Nat} {C:List lE} (h:CtI ct L lf C) {i:Nat} (hi:i∈lf):CtI ct L (lf.filter (fun j=>!(Nat.beq j i))) (bJ (L.getD i []) true C):=by
 refine ⟨fun j hj=>h.1 j (List.mem_filter.1 hj).1,fun n=>?_⟩;rw [dQ,h.2 n,Bool.eq_iff_iff];have hl:=h.1 i hi;constructor
 . intro q;split at q
   . rename_i e;rw [Bool.or_eq_true];right;rw [List.any_eq_true];refine ⟨i,List.mem_range.2 hl,?_⟩
     have:(lf.filter (fun j=>!(Nat.beq j i))).contains i=false:=by
      rw [Bool.eq_false_iff,Ne,List.contains_iff_mem];intro hm;have:=(List.mem_filter.1 hm).2;rw [Nat.beq_refl] at this;cases this
     rw [this,e];simp
   . rw [Bool.or_eq_true] at q ⊢
     grind
 . intro q;split
   . rfl
   . rename_i e;rw [Bool.or_eq_true] at q ⊢;rcases q with q|q
     . exact .inl q
     . right;rw [List.any_eq_true] at q ⊢;obtain ⟨j,hj,q⟩:=q;refine ⟨j,hj,?_⟩;rw [Bool.and_eq_true,Bool.not_eq_true'] at q ⊢;refine ⟨?_,q.2⟩;rw [Bool.eq_false_iff,Ne,List.contains_iff_mem] at q ⊢;intro hm;refine q.1 (List.mem_filter.2 ⟨hm,?_⟩)
       have:¬ j=i:=by
        grind
       rw [Bool.not_eq_true',<- Bool.not_eq_true,Nat.beq_eq];exact this
theorem Sp {ct L:List (List UInt8)} {C:List lE} (h:CtI ct L [] C):CtO (ct++L) C:=by
 intro n;rw [h.2 n]
 have:(List.range L.length).any (fun i=>!([]:List Nat).contains i && (L.getD i []==n))=L.contains n:=by
  rw [Bool.eq_iff_iff,List.any_eq_true,List.contains_iff_mem];constructor
  . grind
  . intro hm;obtain ⟨i,hi,rfl⟩:=List.getElem_of_mem hm;exact ⟨i,List.mem_range.2 hi,by rw [List.getD_eq_getElem?_getD,List.getElem?_eq_getElem hi];simp⟩
 grind
structure Jw (D J:List UInt8->Bool) (X:Ct->Bool) (d:Dc):Prop where
 len:d.sum.ctors.length<=20
 hn:ae cx 69 [.str d.name] (.bool (D d.name))
 hu:ae cx 87 [.str d.name] (.bool (D d.name))
 hf:∀ j,j<d.sum.ctors.length->ae cx 70 [.int .i64 3,.str (d.sum.ctors.getD j Ct.zero).name] (.bool (J (d.sum.ctors.getD j Ct.zero).name))
 hc:∀ j,j<d.sum.ctors.length->ae cx 71 [(d.sum.ctors.getD j Ct.zero).v] (.bool (X (d.sum.ctors.getD j Ct.zero)))
 hr:∀ j,j<d.sum.ctors.length->ae cx 88 [(d.sum.ctors.getD j Ct.zero).v] (.bool (J (d.sum.ctors.getD j Ct.zero).name && X (d.sum.ctors.getD j Ct.zero)))
structure o9 (D J:List UInt8->Bool) (X:Ct->Bool) (V:List Md):Prop where
 n:V.length<=2
 m:∀ i,(V.getD i Md.zero).decls.length<=40
 t:(V.getD 0 Md.zero).decls.length+(V.getD 1 Md.zero).decls.length<=12
 d:∀ i,i<V.length->∀ k,k<(V.getD i Md.zero).decls.length->((V.getD i Md.zero).decls.getD k Dc.zero).kind=0->Jw D J X ((V.getD i Md.zero).decls.getD k Dc.zero)
section
variable (D J:List UInt8->Bool) (X:Ct->Bool) (V:List Md)
def gI (c:Ct):Bool:=J c.name && X c
def pI (i:Nat):SU:=mF (dSm D (gI J X) pm) V i ⟨[],[],[]⟩
def pD (i k:Nat):SU:=dF (dSm D (gI J X) pm) (V.getD i Md.zero).name (V.getD i Md.zero).decls k (pI D J X V i)
def rI (i:Nat):SU:=mF (dSm D (gI J X) CG) V i ⟨[],[],[]⟩
def rD (i k:Nat):SU:=dF (dSm D (gI J X) CG) (V.getD i Md.zero).name (V.getD i Md.zero).decls k (rI D J X V i)
def en:List Sm:=jK (pI D J X V V.length).out.length (pI D J X V V.length).out
end
section
variable {D J:List UInt8->Bool} {X:Ct->Bool} {V:List Md}
theorem HI (i:Nat):IJ (pI D J X V i) (rI D J X V i):=wU (fun doc d s s' h=>vM D _ doc d s s' h) V Fb i
theorem TV (i k:Nat):IJ (pD D J X V i k) (rD D J X V i k):=xK (fun doc d s s' h=>vM D _ doc d s s' h) _ _ (HI i) k
theorem S6 (i k:Nat):pD D J X V i (k+1)=dSm D (gI J X) pm (V.getD i Md.zero).name ((V.getD i Md.zero).decls.getD k Dc.zero) (pD D J X V i k):=rfl
theorem BS {i k:Nat} (h:k=(V.getD i Md.zero).decls.length):pD D J X V i k=pI D J X V (i+1):=by rw [h];rfl
end
section
variable {D:List UInt8->Bool} {cok:Ct->Bool} {ins:Sm->List Sm->List Sm} {doc:List UInt8} {d:Dc} {s:SU}
theorem SE (h:¬ d.kind=0):dSm D cok ins doc d s=s:=by unfold dSm;rw [if_neg (fun q=>h q.1)]
theorem Wq (h:s.seen.contains d.name=true):dSm D cok ins doc d s=s:=by unfold dSm;rw [if_neg (fun q=>by rw [h] at q;exact absurd q.2 zq)]
theorem WK (h:d.kind=0) (h2:s.seen.contains d.name=false) (h3:okS D cok s.ct d=false):dSm D cok ins doc d s=⟨s.seen++[d.name],s.ct,s.out⟩:=by
 unfold dSm;rw [if_pos ⟨h,h2⟩,if_neg (by rw [h3];decide)]
theorem UU (h:d.kind=0) (h2:s.seen.contains d.name=false) (h3:okS D cok s.ct d=true):dSm D cok ins doc d s=⟨s.seen++[d.name],s.ct++d.sum.ctors.map Ct.name,ins (rt d) s.out⟩:=by
 unfold dSm;rw [if_pos ⟨h,h2⟩,if_pos h3]
theorem Pe {C:List (List UInt8)} {l:List Ct} {j:Nat} (h:(cok (l.getD j Ct.zero) && !((l.take j).map Ct.name).contains (l.getD j Ct.zero).name && !C.contains (l.getD j Ct.zero).name)=false):∀ n,j<n->okC cok C l n=false
 | 0,q=>absurd q (Nat.not_lt_zero j)
 | n+1,q=>by
  rw [okC];rcases Nat.lt_succ_iff_lt_or_eq.1 q with q|rfl
  . rw [Pe h n q,Bool.false_and]
  . rw [h,Bool.and_false]
theorem Ss {C:List (List UInt8)} {l:List Ct} {j:Nat} (h0:okC cok C l j=true) (h1:cok (l.getD j Ct.zero)=true) (h2:((l.take j).map Ct.name).contains (l.getD j Ct.zero).name=false) (h3:C.contains (l.getD j Ct.zero).name=false):okC cok C l (j+1)=true:=by
 rw [okC,h0,h1,h2,h3];rfl
theorem DF (h:D d.name=false):okS D cok s.ct d=false:=by unfold okS;rw [h];rfl
theorem D8 (h:d.sum.ctors.length=0):okS D cok s.ct d=false:=by unfold okS;rw [List.length_eq_zero_iff.1 h];simp
theorem DM {j:Nat} (hj:j<d.sum.ctors.length) (h:(cok (d.sum.ctors.getD j Ct.zero) && !((d.sum.ctors.take j).map Ct.name).contains (d.sum.ctors.getD j Ct.zero).name && !s.ct.contains (d.sum.ctors.getD j Ct.zero).name)=false):okS D cok s.ct d=false:=by
 unfold okS;rw [Pe h _ hj,Bool.and_false,Bool.false_and]
theorem J5 {j:Nat} (hj:¬ j<d.sum.ctors.length) (hj2:j<=d.sum.ctors.length) (h0:¬ d.sum.ctors.length=0) (hn:D d.name=true) (h:okC cok s.ct d.sum.ctors j=true):okS D cok s.ct d=true:=by
 have e:j=d.sum.ctors.length:=by omega
 rw [e] at h
 have he:d.sum.ctors.isEmpty=false:=by
  grind
 unfold okS;rw [h,hn,he];rfl
theorem Sj (l:List Ct) {j:Nat} (h:j<l.length):(l.take (j+1)).map Ct.name=(l.take j).map Ct.name++[(l.getD j Ct.zero).name]:=by
 rw [cI l Ct.zero j h,List.map_append];rfl
theorem Rp (D:List UInt8->Bool) (cok:Ct->Bool) (doc:List UInt8) (d:Dc) (s:SU) (hd:d.kind=0->d.sum.ctors.length<=20):(dSm D cok pm doc d s).seen.length<=s.seen.length+1/\(dSm D cok pm doc d s).out.length<=s.out.length+1/\(dSm D cok pm doc d s).ct.length<=s.ct.length+20:=by
 unfold dSm;split
 . rename_i h;have:=hd h.1;split <;> simp [pm] <;> omega
 . omega
end
section
variable {D J:List UInt8->Bool} {X:Ct->Bool} {V:List Md}
def SzS (s:SU) (n:Nat):Prop:=s.seen.length<=n/\s.out.length<=n/\s.ct.length<=20 * n
theorem Aa (hf:o9 D J X V) {i:Nat} (hi:i<V.length) {n:Nat} (h0:SzS (pI D J X V i) n):∀ k,k<=(V.getD i Md.zero).decls.length->SzS (pD D J X V i k) (n+k)
 | 0,_=>h0
 | k+1,h=>by
  have h1:=Aa hf hi h0 k oq;have h2:=Rp D (gI J X) (V.getD i Md.zero).name ((V.getD i Md.zero).decls.getD k Dc.zero) (pD D J X V i k) (fun q=>(hf.d i hi k oq q).len);rw [S6];obtain ⟨a,b,c⟩:=h1;refine ⟨?_,?_,?_⟩ <;> omega
theorem IC (hf:o9 D J X V):∀ i,i<=V.length->SzS (pI D J X V i) (40 * i)
 | 0,_=>⟨Nat.le_refl _,Nat.le_refl _,Nat.le_refl _⟩
 | i+1,h=>by
  have h1:=IC hf i oq;obtain ⟨a,b,c⟩:=Aa hf (by omega:i<V.length) h1 _ (Nat.le_refl _);have:=hf.m i;show SzS (pD D J X V i (V.getD i Md.zero).decls.length) _;refine ⟨?_,?_,?_⟩ <;> omega
theorem WQ (hf:o9 D J X V):(pI D J X V V.length).out.length<=12:=by
 have h0:SzS (pI D J X V 0) 0:=⟨Nat.le_refl _,Nat.le_refl _,Nat.le_refl _⟩;have hn:=hf.n;have ht:=hf.t;have h1:0<V.length->SzS (pI D J X V 1) (0+(V.getD 0 Md.zero).decls.length):=fun h=>Aa hf h h0 _ (Nat.le_refl _)
 have h2:1<V.length->SzS (pI D J X V 2) (0+(V.getD 0 Md.zero).decls.length+(V.getD 1 Md.zero).decls.length):=fun h=>Aa hf h (h1 oq) _ (Nat.le_refl _)
 rcases (by omega:V.length=0\/V.length=1\/V.length=2) with e|e|e <;> rw [e]
 . exact Nat.le_trans h0.2.1 dq
 . have:=(h1 oq).2.1;omega
 . have:=(h2 oq).2.1;omega
theorem szI (hf:o9 D J X V) {i:Nat} (hi:i<=V.length):SzS (pI D J X V i) 80/\(rI D J X V i).out.length<=80:=by
 obtain ⟨a,b,c⟩:=IC hf i hi;have:=hf.n;have hp:=(HI (D:=D) (J:=J) (X:=X) (V:=V) i).perm.length_eq;exact ⟨⟨by omega,by omega,by omega⟩,by omega⟩
theorem szD (hf:o9 D J X V) {i k:Nat} (hi:i<V.length) (hk:k<=(V.getD i Md.zero).decls.length):SzS (pD D J X V i k) 120/\(rD D J X V i k).out.length<=120:=by
 have h0:=IC hf i oq;obtain ⟨a,b,c⟩:=Aa hf hi h0 k hk;have:=hf.n;have:=hf.m i;have hp:=(TV (D:=D) (J:=J) (X:=X) (V:=V) i k).perm.length_eq;exact ⟨⟨by omega,by omega,by omega⟩,by omega⟩
theorem RP {D:List UInt8->Bool} {cok:Ct->Bool} {doc:List UInt8} {d:Dc} {s:SU} {t:Sm} (h:t∈(dSm D cok pm doc d s).out):t∈s.out\/(d.kind=0/\t=rt d):=by
 unfold dSm at h;split at h
 . rename_i hk;split at h
   . rcases List.mem_append.1 h with h|h
     . exact .inl h
     . grind
   . exact .inl h
 . exact .inl h
theorem HE {i:Nat} {t:Sm}:∀ k,k<=(V.getD i Md.zero).decls.length->t∈(pD D J X V i k).out->t∈(pI D J X V i).out\/∃ k',k'<(V.getD i Md.zero).decls.length/\((V.getD i Md.zero).decls.getD k' Dc.zero).kind=0/\t=rt ((V.getD i Md.zero).decls.getD k' Dc.zero)
 | 0,_,h=>.inl h
 | k+1,hk,h=>by
  rw [S6] at h;rcases RP h with h|⟨h1,h2⟩
  . exact HE k oq h
  . grind
theorem G9 {t:Sm}:∀ i,i<=V.length->t∈(pI D J X V i).out->∃ i',i'<V.length/\∃ k',k'<(V.getD i' Md.zero).decls.length/\((V.getD i' Md.zero).decls.getD k' Dc.zero).kind=0/\t=rt ((V.getD i' Md.zero).decls.getD k' Dc.zero)
 | 0,_,h=>by cases h
 | i+1,hi,h=>by
  rcases HE (i:=i) _ (Nat.le_refl _) h with h|⟨k,hk,h1,h2⟩
  . exact G9 i oq h
  . grind
theorem sZ {t:Sm} (h:t∈en D J X V):∃ i,i<V.length/\∃ k,k<(V.getD i Md.zero).decls.length/\((V.getD i Md.zero).decls.getD k Dc.zero).kind=0/\t=rt ((V.getD i Md.zero).decls.getD k Dc.zero) :=
 G9 V.length (Nat.le_refl _) ((iL _ _ (Nat.le_refl _)).mem_iff.1 h)
theorem sJ (hf:o9 D J X V):(en D J X V).length<=80:=by
 have h:=(iL (pI D J X V V.length).out _ (Nat.le_refl _)).length_eq;have:=(szI hf (Nat.le_refl V.length)).1.2.1;unfold en;omega
end
abbrev bz :=List UInt8
theorem Ov (l:List bz) (k:Nat) (x:List UInt8):(l.take k).contains x=false↔∀ i (h:i<l.length),i<k->l[i]≠x:=by
 rw [Bool.eq_false_iff,Ne,List.contains_iff_mem];constructor
 . intro h i hi hk e;exact h (List.mem_take_iff_getElem.2 ⟨i,by omega,e⟩)
 . intro h hm;obtain ⟨i,hi,e⟩:=List.mem_take_iff_getElem.1 hm
   grind
theorem De (l:List bz):l.Nodup↔∀ k,k<l.length->(l.take k).contains (l.getD k [])=false:=by
 rw [List.Nodup,List.pairwise_iff_getElem];constructor
 . intro h k hk;rw [Ov,a7 l _ _ hk]
   grind
 . intro h i j hi hj hij;have:=h j hj;rw [Ov,a7 l _ _ hj] at this;exact this i hi hij
def bA:List (List UInt8)->Bool
 | []=>false
 | x::l=>l.contains x || bA l
theorem fN:∀ {l:List bz},bA l=false↔l.Nodup
 | []=>by simp [bA]
 | x::l=>by simp [bA,fN (l:=l)]
def eP:List (List UInt8)->Bool
 | x::y::l=>!aS y x && eP (y::l)
 | _=>true
theorem j8:∀ l:List bz,eP l=true↔∀ k,k+1<l.length->aS (l.getD (k+1) []) (l.getD k [])=false
 | []=>by simp [eP]
 | [x]=>by simp [eP]
 | x::y::l=>by
  simp only [eP,Bool.and_eq_true,Bool.not_eq_true',j8 (y::l)];constructor
  . rintro ⟨h1,h2⟩ k hk;cases k with
    | zero=>exact h1
    | succ k=>exact h2 k (by simpa using hk)
  . intro h;exact ⟨h 0 zq,fun k hk=>h (k+1) (by simpa using hk)⟩
abbrev ltS (a b:List UInt8):Prop:=aS a b=true
theorem so {l:List bz} (h:l.Pairwise ltS):eP l=true/\l.Nodup:=by
 constructor
 . rw [j8];intro k hk;rw [a7 l _ _ hk,a7 l _ _ oq];have:=List.pairwise_iff_getElem.1 h k (k+1) oq hk oq;cases e:aS l[k+1] l[k] with
   | false=>rfl
   | true=>exact absurd (dK this e) (by simp [eI])
 . exact h.imp fun q e=>by rw [ltS,e,eI] at q;cases q
theorem wL:∀ {l:List bz},eP l=true->l.Nodup->l.Pairwise ltS
 | [],_,_=>List.Pairwise.nil
 | [x],_,_=>List.pairwise_singleton _ _
 | x::y::l,h,hn=>by
  simp only [eP,Bool.and_eq_true,Bool.not_eq_true'] at h;have ih:=wL h.2 hn.of_cons
  have hxy:ltS x y:=by
   rcases fP h.1 with e|e
   . subst e;simp at hn
   . exact e
  refine List.pairwise_cons.2 ⟨fun z hz=>?_,ih⟩;rcases List.mem_cons.1 hz with rfl|hz
  . exact hxy
  . exact dK hxy ((List.pairwise_cons.1 ih).1 z hz)
theorem iw {a b:Nat}:Nat.ble a b=true↔a<=b:=⟨Nat.le_of_ble_eq_true,Nat.ble_eq_true_of_le⟩
theorem sc {a b:Nat}:Nat.blt a b=false↔b<=a:=by
 rw [Bool.eq_false_iff,Ne,show (Nat.blt a b=true)=(Nat.ble (a+1) b=true) from rfl,iw];omega
theorem l2 {b:Bool} {w:List bz} {o:List (List bz)}:jJ b w o=[]↔b=false/\o=[]:=by
 cases b <;> simp [jJ]
section
variable (O:List UInt8->Bool) (U:Ty->Bool) (Y:Ex->Bool) (fst:List UInt8->Option Tb)
abbrev Cl0 (w:Wr):Prop:=w.1=[]/\w.2=false
theorem EG (cols:List Co) (s:Wr):∀ i,Cl0 (wrC O U cols i s)↔Cl0 s/\∀ k,k<i->U (cols.getD k Co.zero).type=true/\O (cols.getD k Co.zero).name=true/\aW (cols.take k) (cols.getD k Co.zero).name=false
 | 0=>⟨fun h=>⟨h,fun k q=>absurd q (Nat.not_lt_zero k)⟩,fun h=>h.1⟩
 | i+1=>by
  have ih:=EG cols s i;simp only [Cl0,wrC,l2,Bool.or_eq_false_iff,Bool.not_eq_false'] at ih ⊢
  grind
theorem DO (t:Tb) (s:Wr):∀ i,Cl0 (wrK t i s)↔Cl0 s/\∀ k,k<i->(t.key.take k).contains (t.key.getD k [])=false/\aW t.cols (t.key.getD k [])=true
 | 0=>⟨fun h=>⟨h,fun k q=>absurd q (Nat.not_lt_zero k)⟩,fun h=>h.1⟩
 | i+1=>by
  have ih:=DO t s i;simp only [Cl0,wrK,l2,Bool.or_eq_false_iff,Bool.not_eq_false'] at ih ⊢
  grind
theorem EE (t:Tb) (s:Wr):∀ i,Cl0 (wrR fst t i s)↔Cl0 s/\∀ k,k<i->fC fst t k=false/\(fst (t.refs.getD k Rf.zero).tab).isSome=true/\aW t.cols (t.refs.getD k Rf.zero).col=true
 | 0=>⟨fun h=>⟨h,fun k q=>absurd q (Nat.not_lt_zero k)⟩,fun h=>h.1⟩
 | i+1=>by
  have ih:=EE t s i;simp only [Cl0,wrR,l2,Bool.or_eq_false_iff,Bool.not_eq_false'] at ih ⊢
  grind
structure cC (d:Dc):Prop where
 n8:d.tab.cols.length<=8
 nm:O d.name=true
 ck:Y d.tab.chk=true
 co:∀ k,k<d.tab.cols.length->U (d.tab.cols.getD k Co.zero).type=true/\O (d.tab.cols.getD k Co.zero).name=true/\aW (d.tab.cols.take k) (d.tab.cols.getD k Co.zero).name=false
 kl:bn d.tab=false
 ky:∀ k,k<d.tab.key.length->(d.tab.key.take k).contains (d.tab.key.getD k [])=false/\aW d.tab.cols (d.tab.key.getD k [])=true
 rf:∀ k,k<d.tab.refs.length->fC fst d.tab k=false/\(fst (d.tab.refs.getD k Rf.zero).tab).isSome=true/\aW d.tab.cols (d.tab.refs.getD k Rf.zero).col=true
theorem Il (d:Dc):Cl0 (wr O U Y fst d)↔cC O U Y fst d:=by
 unfold wr;rw [EE];unfold wr2;rw [DO];have e:∀ b w o,Cl0 (jJ b w o.1,o.2)↔b=false/\Cl0 o:=fun b w o=>by simp [Cl0,l2,and_assoc]
 rw [e];unfold wr1;rw [EG];simp only [Cl0,l2,Bool.or_eq_false_iff,Bool.not_eq_false'];constructor
 . rintro ⟨⟨⟨h1,⟨⟨h2,-⟩,h3,h4⟩,h5⟩,h6⟩,h7⟩;exact ⟨sc.1 h2,h3,h4,h5,h1,h6,h7⟩
 . intro h;exact ⟨⟨⟨h.kl,⟨⟨sc.2 h.n8,trivial⟩,h.nm,h.ck⟩,h.co⟩,h.ky⟩,h.rf⟩
end
theorem pv (l:List Co) (n:List UInt8):aW l n=(l.map Co.name).contains n:=by
 unfold aW
 grind
theorem jY {α β:Type} (f:α->β) (l:List α) (d:α) (e:β) {k:Nat} (h:k<l.length):(l.map f).getD k e=f (l.getD k d):=by
 grind
theorem A8 (l:List Co):(∀ k,k<l.length->aW (l.take k) (l.getD k Co.zero).name=false)↔(l.map Co.name).Nodup:=by
 rw [De];constructor
 . intro h k hk;have hk':k<l.length:=by simpa using hk
   have:=h k hk'
   rwa [pv,List.map_take,<- jY Co.name l Co.zero [] hk'] at this
 . intro h k hk;have:=h k (by simpa using hk)
   rwa [pv,List.map_take,<- jY Co.name l Co.zero [] hk]
theorem DW (l:List Rf) (n:List UInt8):l.any (fun x=>x.col==n)=(l.map Rf.col).contains n:=by
 grind
theorem Ay (l:List Rf):(∀ k,k<l.length->(l.take k).any (fun x=>x.col==(l.getD k Rf.zero).col)=false)↔(l.map Rf.col).Nodup:=by
 rw [De];constructor
 . intro h k hk;have hk':k<l.length:=by simpa using hk
   have:=h k hk'
   rwa [DW,List.map_take,<- jY Rf.col l Rf.zero [] hk'] at this
 . intro h k hk;have:=h k (by simpa using hk)
   rwa [DW,List.map_take,<- jY Rf.col l Rf.zero [] hk]
def ba (s:List Sm):List Ct:=s.flatMap Sm.ctors
def cg (l:List Tb) (n:List UInt8):Tb:=(l.find? (fun t=>t.name==n)).getD Tb.zero
section
variable (D J O:List UInt8->Bool) (X:Ct->Bool) (U:Ty->Bool) (Y:Ex->Int)
def k7 (s:Sc):Bool:=Nat.ble s.tabs.length 8 && s.tabs.all (fun t=>Nat.ble t.cols.length 8)
def hX (s:Sc):Bool:=s.sums.all (fun x=>D x.name) && ((ba s.sums).all (fun c=>J c.name) && s.tabs.all (fun t=>O t.name && t.cols.all (fun c=>O c.name)))
def gh (s:Sc):Bool:=!bA (s.sums.map Sm.name) && (!bA (s.tabs.map Tb.name) && (!bA ((ba s.sums).map Ct.name) && s.tabs.all (fun t=>!bA (t.cols.map Co.name) && (!bA t.key && !bA (t.refs.map Rf.col)))))
def fD (s:Sc):Bool:=eP (s.sums.map Sm.name) && (eP (s.tabs.map Tb.name) && (s.sums.all (fun x=>!x.ctors.isEmpty) && ((ba s.sums).all X && s.tabs.all (fun t=>!bn t && Y t.chk==0))))
def ie (s:Sc):Bool:=s.tabs.all (fun t=>t.key.all (aW t.cols) && t.refs.all (fun r=>cY s.tabs r.tab && aW t.cols r.col))
def k5 (s:Sc):Bool:=s.tabs.all (fun t=>t.cols.all (fun c=>U c.type))
def lr (s:Sc):Bool:=s.tabs.all (fun t=>t.refs.all (fun r=>tgt (cg s.tabs r.tab) (cp t.cols r.col).type))
structure Vld (s:Sc):Prop where
 lim:k7 s=true
 nam:hX D J O s=true
 twi:gh s=true
 form:fD X Y s=true
 non:ie s=true
 typ:k5 U s=true
 ref:lr s=true
end
theorem sw (l:List Tb) (n:List UInt8):cY l n=true↔∃ u∈l,u.name=n:=by
 unfold cY;rw [List.any_eq_true];simp
theorem IS {l:List Tb} {n:List UInt8} (h:cY l n=true):cg l n∈l/\(cg l n).name=n:=by
 unfold cg;cases e:l.find? (fun t=>t.name==n) with
 | some x=>exact ⟨List.mem_of_find?_eq_some e,by have:=List.find?_some e;simpa using this⟩
 | none =>
  obtain ⟨u,hu,q⟩:=(sw l n).1 h
  grind
section
variable {O:List UInt8->Bool} {U:Ty->Bool} {Y:Ex->Int} {V:List Md} {Z:List Sm}
theorem B4 {i:Nat}:∀ k,k<=(kz V i).decls.length->∀ n,aV (stD O U Y V i k).seen n=false->aV (stI O U Y V i).seen n=false/\gZ n ((kz V i).decls.take k)=none
 | 0,_,n,h=>⟨h,rfl⟩
 | k+1,hk,n,h=>by
  have ih:=B4 (i:=i) k oq n;rw [uh] at h;unfold dP at h;by_cases hc:(dcl V i k).kind=1/\aV (stD O U Y V i k).seen (dcl V i k).name=false
  . rw [if_pos hc] at h
    have h':aV (bJ (dcl V i k).name true (stD O U Y V i k).seen) n=false:=by
     split at h <;> exact h
    rw [dQ] at h';by_cases e:n=(dcl V i k).name
    . grind
    . rw [if_neg e] at h';exact ⟨(ih h').1,vB oq (ih h').2 fun q=>e q.2.symm⟩
  . rw [if_neg hc] at h;exact ⟨(ih h).1,vB oq (ih h).2 fun q=>hc ⟨q.1,by rw [show (dcl V i k).name=n from q.2];exact h⟩⟩
theorem Ju:∀ i,i<=V.length->∀ n,aV (stI O U Y V i).seen n=false->jh n (V.take i)=none
 | 0,_,n,_=>rfl
 | i+1,hi,n,h=>by
  obtain ⟨h1,h2⟩:=B4 (i:=i) _ (Nat.le_refl _) n h;rw [List.take_length] at h2;exact GL oq (Ju i oq n h1) h2
def RU (O:List UInt8->Bool) (U:Ty->Bool) (Y:Ex->Int) (V:List Md) (s:SP):Prop:=∀ t∈s.out,∃ d:Dc,t=d.tab.named d.name/\jh d.name V=some d.tab/\aV s.bp.1 d.name=(!(wr O U (fun e=>Y e==0) (fun n=>aL n (tmA V)) d).1.isEmpty || (wr O U (fun e=>Y e==0) (fun n=>aL n (tmA V)) d).2)
theorem JC {i:Nat} (hi:i<V.length) (h0:RU O U Y V (stI O U Y V i)):∀ k,k<=(kz V i).decls.length->RU O U Y V (stD O U Y V i k)
 | 0,_=>h0
 | k+1,hk=>by
  have ih:=JC hi h0 k oq;have R:=Rr (O:=O) (U:=U) (Y:=Y) (V:=V) i k;rw [uh];unfold dP;by_cases hc:(dcl V i k).kind=1/\aV (stD O U Y V i k).seen (dcl V i k).name=false
  . rw [if_pos hc]
    have hnm:∀ t∈(stD O U Y V i k).out,¬ t.name=(dcl V i k).name:=fun t ht e=>by
     have:=R.nam t ht;rw [<- R.tr,e,hc.2] at this;cases this
    split
    . intro t ht;obtain ⟨d,h1,h2,h3⟩:=ih t ht;refine ⟨d,h1,h2,?_⟩;have hn:¬ d.name=(dcl V i k).name:=by have:=hnm t ht;rwa [h1] at this
      simp only [b9,dQ,if_neg hn];exact h3
    . obtain ⟨-,t2⟩:=px O U (fun e=>Y e==0) (fun n=>aL n (tmA V)) (kz V i).name (dcl V i k) (stD O U Y V i k).bp;intro t ht;rcases List.mem_append.1 ht with ht|ht
      . obtain ⟨d,h1,h2,h3⟩:=ih t ht;refine ⟨d,h1,h2,?_⟩;have hn:¬ d.name=(dcl V i k).name:=by have:=hnm t ht;rwa [h1] at this
        grind
      . rw [List.mem_singleton] at ht;obtain ⟨s1,s2⟩:=B4 (i:=i) k oq _ hc.2;refine ⟨dcl V i k,ht,Oa hi oq (Ju i oq _ s1) s2 hc.1 rfl,?_⟩;show aV (jq _ _ _ _ _ _ _).1 (dcl V i k).name=_;rw [t2,R.bad _ (by rw [<- R.tr];exact hc.2)];simp
  . rw [if_neg hc];exact ih
theorem HW:∀ i,i<=V.length->RU O U Y V (stI O U Y V i)
 | 0,_=>fun t ht=>by cases ht
 | i+1,h=>JC oq (HW i oq) _ (Nat.le_refl _)
theorem Gq {t:Tb} (ht:t∈(gT O U Y V Z).tabs):(∃ d:Dc,t=d.tab.named d.name/\jh d.name V=some d.tab/\cC O U (fun e=>Y e==0) (fun n=>jh n V) d)/\∀ r∈t.refs,cY (gT O U Y V Z).tabs r.tab=true:=by
 have hp:=oY (O:=O) (U:=U) (Y:=Y) (V:=V) (Z:=Z);have h9:t∈(itP (stI O U Y V V.length).bp.1 9 (stI O U Y V V.length).out):=hp.mem_iff.1 ht;have hk:=h9;rw [<- Pd (B:=(stI O U Y V V.length).bp.1) yy,zS] at hk;have hg:=(List.mem_filter.1 hk).2;rw [Bool.and_eq_true,Bool.not_eq_true',List.all_eq_true] at hg;refine ⟨?_,fun r hr=>?_⟩
 . obtain ⟨d,h1,h2,h3⟩:=HW (O:=O) (U:=U) (Y:=Y) (V:=V) _ (Nat.le_refl _) t ((mz _ _ 9).subset h9);refine ⟨d,h1,h2,?_⟩;have hb:aV (stI O U Y V V.length).bp.1 d.name=false:=by have:=hg.1;rwa [h1] at this
   rw [hb,show (fun n=>aL n (tmA V))=fun n=>jh n V from Ib V] at h3;rw [<- Il]
   grind
 . have:=hg.2 r hr;rw [Bool.and_eq_true] at this;obtain ⟨u,hu,q⟩:=(sw _ _).1 this.1;exact (sw _ _).2 ⟨u,hp.mem_iff.2 hu,q⟩
theorem I2:CH (gT O U Y V Z).tabs:=Bn ((PR (O:=O) (U:=U) (Y:=Y) (V:=V) V.length).nod.sublist (mz _ _ 9))
end
section
variable {D J O:List UInt8->Bool} {X:Ct->Bool} {U:Ty->Bool} {Y:Ex->Int} {V:List Md}
theorem xU {cok:Ct->Bool} {C:List bz} {l:List Ct}:∀ {n},okC cok C l n=true↔∀ j,j<n->cok (l.getD j Ct.zero)=true/\((l.take j).map Ct.name).contains (l.getD j Ct.zero).name=false/\C.contains (l.getD j Ct.zero).name=false
 | 0=>⟨fun _ j h=>absurd h (Nat.not_lt_zero j),fun _=>rfl⟩
 | n+1=>by
  rw [okC,Bool.and_eq_true,xU (n:=n),Bool.and_eq_true,Bool.and_eq_true,Bool.not_eq_true',Bool.not_eq_true']
  grind
theorem J4 (l:List Ct):(∀ k,k<l.length->((l.take k).map Ct.name).contains (l.getD k Ct.zero).name=false)↔(l.map Ct.name).Nodup:=by
 rw [De];constructor
 . intro h k hk;have hk':k<l.length:=by simpa using hk
   have:=h k hk'
   rwa [List.map_take,<- jY Ct.name l Ct.zero [] hk'] at this
 . intro h k hk;have:=h k (by simpa using hk)
   rwa [List.map_take,<- jY Ct.name l Ct.zero [] hk]
structure Nj (D J:List UInt8->Bool) (X:Ct->Bool) (s:SU):Prop where
 ct:s.ct=(ba s.out).map Ct.name
 nod:s.ct.Nodup
 sm:∀ x∈s.out,D x.name=true/\x.ctors.isEmpty=false/\∀ c∈x.ctors,J c.name=true/\X c=true
theorem Gx (doc:List UInt8) (d:Dc) (s:SU) (h:Nj D J X s):Nj D J X (dSm D (gI J X) pm doc d s):=by
 unfold dSm;split
 . split
   . rename_i hk;unfold okS at hk;rw [Bool.and_eq_true,Bool.and_eq_true,Bool.not_eq_true',xU] at hk;obtain ⟨⟨hn,hc⟩,he⟩:=hk;refine ⟨?_,?_,?_⟩
     . show s.ct++_=(ba (s.out++[rt d])).map Ct.name;rw [h.ct];simp [ba,rt]
     . show (s.ct++_).Nodup;rw [List.nodup_append];refine ⟨h.nod,(J4 _).1 fun k hk=>(hc k hk).2.1,?_⟩;rintro a ha b hb rfl;obtain ⟨c,hc1,rfl⟩:=List.mem_map.1 hb;obtain ⟨i,hi,rfl⟩:=List.getElem_of_mem hc1
       grind
     . intro x hx;rcases List.mem_append.1 hx with q|q
       . exact h.sm x q
       . rw [List.mem_singleton] at q;subst q;refine ⟨hn,he,fun c hc1=>?_⟩;obtain ⟨i,hi,rfl⟩:=List.getElem_of_mem (show c∈d.sum.ctors from hc1);have:=(hc i hi).1;rw [a7 _ _ _ hi,gI,Bool.and_eq_true] at this;exact this
   . exact ⟨h.ct,h.nod,h.sm⟩
 . exact h
theorem P0 (i:Nat):Nj D J X (pI D J X V i):=wU (τ:=Unit) (g:=fun _ _ _=>()) (R:=fun s _=>Nj D J X s) (fun doc d s _ h=>Gx doc d s h) V (s:=⟨[],[],[]⟩) (s':=()) ⟨rfl,List.nodup_nil,fun x hx=>by cases hx⟩ i
theorem MC {a b:List Sm} (h:a.Perm b):(ba a).Perm (ba b):=List.Perm.flatMap_right _ h
theorem Ha:Cg (en D J X V):=zA (HI (D:=D) (J:=J) (X:=X) (V:=V) V.length).nod
theorem GK:(∀ x∈en D J X V,D x.name=true/\x.ctors.isEmpty=false/\∀ c∈x.ctors,J c.name=true/\X c=true)/\((ba (en D J X V)).map Ct.name).Nodup:=by
 have hi:=P0 (D:=D) (J:=J) (X:=X) (V:=V) V.length;have hp:(en D J X V).Perm _:=iL (pI D J X V V.length).out _ (Nat.le_refl _);refine ⟨fun x hx=>hi.sm x (hp.mem_iff.1 hx),?_⟩;have:=hi.nod;rw [hi.ct] at this;exact ((MC hp).map Ct.name).nodup_iff.2 this
theorem JT {l:List Sm} {x:Sm} {c:Ct} (hx:x∈l) (hc:c∈x.ctors):c∈ba l:=List.mem_flatMap.2 ⟨x,hx,hc⟩
theorem Jf:Vld D J O X U Y (gT O U Y V (en D J X V)):=by
 have hs:=GK (D:=D) (J:=J) (X:=X) (V:=V);have hg:=fun t (ht:t∈(gT O U Y V (en D J X V)).tabs)=>Gq ht
 have hsr:=so (l:=(en D J X V).map Sm.name) (List.pairwise_map.2 Ha);have htr:=so (l:=(gT O U Y V (en D J X V)).tabs.map Tb.name) (List.pairwise_map.2 I2);refine ⟨?_,?_,?_,?_,?_,?_,?_⟩
 . rw [k7,Bool.and_eq_true,List.all_eq_true];refine ⟨?_,fun t ht=>?_⟩
   . have h1:=(oY (O:=O) (U:=U) (Y:=Y) (V:=V) (Z:=en D J X V)).length_eq;have h2:=r8 (O:=O) (U:=U) (Y:=Y) (V:=V) 9;exact iw.2 (by rw [h1];exact h2)
   . obtain ⟨⟨d,rfl,-,h⟩,-⟩:=hg t ht;exact iw.2 h.n8
 . simp only [hX,Bool.and_eq_true,List.all_eq_true];refine ⟨fun x hx=>(hs.1 x hx).1,fun c hc=>?_,fun t ht=>?_⟩
   . obtain ⟨x,hx,q⟩:=List.mem_flatMap.1 hc;exact ((hs.1 x hx).2.2 c q).1
   . obtain ⟨⟨d,rfl,-,h⟩,-⟩:=hg t ht;refine ⟨h.nm,fun c hc=>?_⟩;obtain ⟨i,hi,rfl⟩:=List.getElem_of_mem (show c∈d.tab.cols from hc);have:=(h.co i hi).2.1
     grind
 . simp only [gh,Bool.and_eq_true,List.all_eq_true,Bool.not_eq_true',fN];refine ⟨hsr.2,htr.2,hs.2,fun t ht=>?_⟩;obtain ⟨⟨d,rfl,-,h⟩,-⟩:=hg t ht;refine ⟨(A8 _).1 fun k hk=>(h.co k hk).2.2,(De _).2 fun k hk=>(h.ky k hk).1,(Ay _).1 fun k hk=>?_⟩;have:=(h.rf k hk).1;rw [fC,Bool.or_eq_false_iff] at this;exact this.1
 . simp only [fD,Bool.and_eq_true,List.all_eq_true,Bool.not_eq_true'];refine ⟨hsr.1,htr.1,fun x hx=>(hs.1 x hx).2.1,fun c hc=>?_,fun t ht=>?_⟩
   . obtain ⟨x,hx,q⟩:=List.mem_flatMap.1 hc;exact ((hs.1 x hx).2.2 c q).2
   . obtain ⟨⟨d,rfl,-,h⟩,-⟩:=hg t ht;exact ⟨h.kl,h.ck⟩
 . simp only [ie,Bool.and_eq_true,List.all_eq_true];intro t ht;obtain ⟨⟨d,rfl,-,h⟩,hr⟩:=hg t ht;refine ⟨fun n hn=>?_,fun r hr'=>⟨hr r hr',?_⟩⟩
   . obtain ⟨i,hi,rfl⟩:=List.getElem_of_mem (show n∈d.tab.key from hn);have:=(h.ky i hi).2
     rwa [a7 _ _ _ hi] at this
   . obtain ⟨i,hi,rfl⟩:=List.getElem_of_mem (show r∈d.tab.refs from hr');have:=(h.rf i hi).2.2
     rwa [a7 _ _ _ hi] at this
 . simp only [k5,List.all_eq_true];intro t ht c hc;obtain ⟨⟨d,rfl,-,h⟩,-⟩:=hg t ht;obtain ⟨i,hi,rfl⟩:=List.getElem_of_mem (show c∈d.tab.cols from hc);have:=(h.co i hi).1
   grind
 . simp only [lr,List.all_eq_true];intro t ht r hr;obtain ⟨⟨d,rfl,-,h⟩,hh⟩:=hg t ht;obtain ⟨hu1,hu2⟩:=IS (hh r hr);obtain ⟨⟨e,h1,h2,-⟩,-⟩:=hg _ hu1;have hn:e.name=r.tab:=by rw [<- hu2,h1];rfl
   rw [hn] at h2;obtain ⟨i,hi,rfl⟩:=List.getElem_of_mem (show r∈d.tab.refs from hr);have hi':i<d.tab.refs.length:=hi;obtain ⟨b1,b2,b3⟩:=h.rf i hi';rw [a7 _ _ _ hi'] at b2 b3;rw [fC,Bool.or_eq_false_iff,a7 _ _ _ hi'] at b1;have b4:=b1.2;have e2:jh (d.tab.refs[i]).tab V=some e.tab:=h2;simp only [e2,Option.isSome_some,b3,Bool.true_and,Option.getD_some,Bool.not_eq_false'] at b4;rw [h1];exact b4
end
section
variable {σ:Type}
theorem D7 (f:List UInt8->Dc->σ->σ) (doc:List UInt8) (ds:List Dc) (s:σ):∀ k,k<=ds.length->dF f doc ds k s=(ds.take k).foldl (fun s d=>f doc d s) s
 | 0,_=>rfl
 | k+1,h=>by rw [dF,D7 f doc ds s k oq,cI ds Dc.zero k oq,List.foldl_append];rfl
theorem IK (f:List UInt8->Dc->σ->σ) (m:Md) (s:σ):mF f [m] 1 s=m.decls.foldl (fun s d=>f m.name d s) s:=by
 show dF f m.name m.decls m.decls.length s=_;rw [D7 _ _ _ _ _ (Nat.le_refl _),List.take_length]
end
section
variable {D J O:List UInt8->Bool} {X:Ct->Bool} {U:Ty->Bool} {Y:Ex->Int}
theorem ub (a b:List Sm):ba (a++b)=ba a++ba b:=List.flatMap_append
theorem Dp (doc:List UInt8):∀ (l p:List Sm),((p++l).map Sm.name).Nodup->((ba (p++l)).map Ct.name).Nodup->(∀ x∈l,D x.name=true/\x.ctors.isEmpty=false/\∀ c∈x.ctors,J c.name=true/\X c=true) ->
 (l.map dcS).foldl (fun s d=>dSm D (gI J X) pm doc d s) ⟨p.map Sm.name,(ba p).map Ct.name,p⟩=⟨(p++l).map Sm.name,(ba (p++l)).map Ct.name,p++l⟩
 | [],p,_,_,_=>by simp
 | x::l,p,h1,h2,h3=>by
  have e:p++x::l=(p++[x])++l:=by simp
  obtain ⟨n1,n2,n3⟩:=h3 x (.head _)
  have hx:(p.map Sm.name).contains x.name=false:=by
   grind
  have hc:(x.ctors.map Ct.name).Nodup/\∀ c∈x.ctors,((ba p).map Ct.name).contains c.name=false:=by
   rw [ub,List.map_append,List.nodup_append] at h2;have e2:ba (x::l)=x.ctors++ba l:=by simp [ba]
   grind
  have hk:okS D (gI J X) ((ba p).map Ct.name) (dcS x)=true:=by
   show (D x.name && okC (gI J X) ((ba p).map Ct.name) x.ctors x.ctors.length && !x.ctors.isEmpty)=true;rw [n1,n2,Bool.true_and,Bool.not_false,Bool.and_true,xU];intro j hj;have hm:=aH x.ctors Ct.zero j hj;exact ⟨by rw [gI,(n3 _ hm).1,(n3 _ hm).2];rfl,(J4 _).2 hc.1 j hj,hc.2 _ hm⟩
  rw [List.map_cons,List.foldl_cons,UU rfl hx hk,e];have ih:=Dp doc l (p++[x]) (by rw [<- e];exact h1) (by rw [<- e];exact h2) (fun y hy=>h3 y (.tail _ hy));rw [<- ih];congr 1;show SU.mk _ _ _=SU.mk _ _ _;congr 1
  . simp [dcS]
  . simp [ba,dcS]
theorem Nc {l:List Sm} (h:Cg l):jK l.length l=l:=by
 have hn:l.Pairwise (fun a b=>a.name≠b.name):=h.imp fun q e=>by rw [e,eI] at q;cases q
 refine List.Perm.eq_of_pairwise (le:=fun a b:Sm=>aS a.name b.name=true) (fun a b _ _ q1 q2=>?_) (zA hn) h (iL _ _ (Nat.le_refl _));exact absurd (dK q1 q2) (by simp [eI])
theorem N4 {l:List Tb} (h:CH l):jL l.length l=l:=by
 have hn:l.Pairwise (fun a b=>a.name≠b.name):=h.imp fun q e=>by rw [e,eI] at q;cases q
 refine List.Perm.eq_of_pairwise (le:=fun a b:Tb=>aS a.name b.name=true) (fun a b _ _ q1 q2=>?_) (Bn hn) h (mD _ _ (Nat.le_refl _));exact absurd (dK q1 q2) (by simp [eI])
abbrev msB (b:List UInt8) (s:Sc):List Md:=[⟨b,dy s⟩]
theorem Vld.sums {s:Sc} (h:Vld D J O X U Y s):Cg s.sums/\((ba s.sums).map Ct.name).Nodup/\∀ x∈s.sums,D x.name=true/\x.ctors.isEmpty=false/\∀ c∈x.ctors,J c.name=true/\X c=true:=by
 have h1:=h.nam;have h2:=h.twi;have h3:=h.form;simp only [hX,gh,fD,Bool.and_eq_true,List.all_eq_true,Bool.not_eq_true',fN] at h1 h2 h3;exact ⟨List.pairwise_map.1 (wL h3.1 h2.1),h2.2.2.1,fun x hx=>⟨h1.1 x hx,h3.2.2.1 x hx,fun c hc=>⟨h1.2.1 c (JT hx hc),h3.2.2.2.1 c (JT hx hc)⟩⟩⟩
theorem Vld.tsrt {s:Sc} (h:Vld D J O X U Y s):CH s.tabs:=by
 have h2:=h.twi;have h3:=h.form;simp only [gh,fD,Bool.and_eq_true,Bool.not_eq_true',fN] at h2 h3;exact List.pairwise_map.1 (wL h3.2.1 h2.2.1)
theorem pT {s:Sc} (h:Vld D J O X U Y s) (b:List UInt8):en D J X (msB b s)=s.sums:=by
 obtain ⟨h1,h2,h3⟩:=h.sums;have hn:(s.sums.map Sm.name).Nodup:=(so (List.pairwise_map.2 h1)).2
 have e:pI D J X (msB b s) 1=⟨s.sums.map Sm.name,(ba s.sums).map Ct.name,s.sums⟩:=by
  unfold pI;rw [IK];show (s.sums.map dcS++s.tabs.map dcT).foldl (fun s d=>dSm D (gI J X) pm b d s) ⟨([]:List Sm).map Sm.name,(ba []).map Ct.name,[]⟩=_;rw [List.foldl_append,Dp (D:=D) (J:=J) (X:=X) b s.sums [] (by simpa using hn) (by simpa using h2) h3]
  have:∀ (l:List Tb) (q:SU),(l.map dcT).foldl (fun s d=>dSm D (gI J X) pm b d s) q=q:=by
   intro l
   induction l with
   | nil=>intro q;rfl
   | cons t l ih=>intro q;rw [List.map_cons,List.foldl_cons,SE (by decide:¬ (1:Int)=0)];exact ih q
  rw [this];rfl
 unfold en;rw [show (msB b s).length=1 from rfl,e];exact Nc h1
theorem QX (s:Sc) (b n:List UInt8):jh n (msB b s)=s.tabs.find? (fun t=>t.name==n):=by
 rw [iG,show jh n []=none from rfl]
 have e:gZ n (dy s)=s.tabs.find? (fun t=>t.name==n):=by
  unfold gZ dy;rw [List.find?_append]
  have h0:(s.sums.map dcS).find? (fun d=>d.kind==1 && d.name==n)=none:=by
   rw [List.find?_eq_none];intro x hx;obtain ⟨y,_,rfl⟩:=List.mem_map.1 hx;simp [dcS]
  rw [h0,Option.none_or,List.find?_map,Option.map_map];have:((fun d:Dc=>d.kind==1 && d.name==n) ∘ dcT)=fun t:Tb=>t.name==n:=by funext t;simp [dcT]
  rw [this];have:(Dc.tab ∘ dcT)=id:=rfl;rw [this];simp
 rw [e];cases s.tabs.find? _ <;> rfl
theorem L8 {s:Sc} (h:Vld D J O X U Y s) {t:Tb} (ht:t∈s.tabs):cC O U (fun e=>Y e==0) (fun n=>s.tabs.find? (fun t=>t.name==n)) (dcT t):=by
 have h0:=h.lim;have h1:=h.nam;have h2:=h.twi;have h3:=h.form;have h4:=h.non;have h5:=h.typ;have h6:=h.ref;simp only [k7,hX,gh,fD,ie,k5,lr,Bool.and_eq_true,List.all_eq_true,Bool.not_eq_true',fN] at h0 h1 h2 h3 h4 h5 h6;have hm:=fun k (hk:k<t.cols.length)=>aH t.cols Co.zero k hk
 refine ⟨iw.1 (h0.2 t ht),(h1.2.2 t ht).1,(h3.2.2.2.2 t ht).2,fun k hk=>⟨h5 t ht _ (hm k hk),(h1.2.2 t ht).2 _ (hm k hk),(A8 _).2 (h2.2.2.2 t ht).1 k hk⟩,(h3.2.2.2.2 t ht).1,fun k hk=>⟨(De _).1 (h2.2.2.2 t ht).2.1 k hk,(h4 t ht).1 _ (aH t.key [] k hk)⟩,fun k hk=>?_⟩;have hr:=aH t.refs Rf.zero k hk;obtain ⟨g1,g2⟩:=(h4 t ht).2 _ hr;have g3:=h6 t ht _ hr;refine ⟨?_,?_,g2⟩
 . rw [fC,Bool.or_eq_false_iff];refine ⟨(Ay _).2 (h2.2.2.2 t ht).2.2 k hk,?_⟩;show (_ && (_ && !tgt (cg s.tabs _) _))=false;rw [show tgt (cg s.tabs ((dcT t).tab.refs.getD k Rf.zero).tab) (cp (dcT t).tab.cols ((dcT t).tab.refs.getD k Rf.zero).col).type=true from g3];simp
 . obtain ⟨u,hu,q⟩:=(sw _ _).1 g1;show (s.tabs.find? _).isSome=true;rw [List.find?_isSome];exact ⟨u,hu,beq_iff_eq.2 q⟩
structure KQ (p:List Tb) (S:SP):Prop where
 out:S.out=p
 sn:∀ n,aV S.seen n=(p.map Tb.name).contains n
 sq:S.seen.map Prod.fst=p.map Tb.name
 ps:S.bp.2=[]
 bd:∀ n,aV S.bp.1 n=false
theorem y7 {α:Type} (n:List UInt8) (v:α):∀ l:List (List UInt8×α),(bJ n v l).length<=l.length+1
 | []=>Nat.le_refl _
 | p::l=>by
  unfold bJ;split
  . simp
  . have:=y7 n v l;simp;omega
theorem Ey (fst:List UInt8->Option Tb) (chk':Ex->Bool) (doc:List UInt8):∀ (l p:List Tb) (S:SP),((p++l).map Tb.name).Nodup->(p++l).length<=8->(∀ t∈l,cC O U chk' fst (dcT t))->KQ p S->KQ (p++l) ((l.map dcT).foldl (fun s d=>dP O U chk' fst doc d s) S)
 | [],p,S,_,_,_,h=>by simpa using h
 | t::l,p,S,h1,h2,h3,h=>by
  have e:p++t::l=(p++[t])++l:=by simp
  have hx:(p.map Tb.name).contains t.name=false:=by
   grind
  have hb:aV S.seen t.name=false:=by rw [h.sn];exact hx
  rw [List.map_cons,List.foldl_cons,e];refine Ey fst chk' doc l (p++[t]) _ (by rw [<- e];exact h1) (by rw [<- e];exact h2) (fun y hy=>h3 y (.tail _ hy)) ?_
  have hsl:(bJ t.name true S.seen).length<=8:=by
   have:=y7 t.name true S.seen;have:=congrArg List.length h.sq;simp at h2 this;omega
  obtain ⟨w1,w2⟩:=(Il O U chk' fst (dcT t)).2 (h3 t (.head _));obtain ⟨t1,t2⟩:=px O U chk' fst doc (dcT t) S.bp;unfold dP;rw [if_pos (show (dcT t).kind=1/\aV S.seen (dcT t).name=false from ⟨rfl,hb⟩),if_neg (show ¬ 8<(bJ (dcT t).name true S.seen).length by show ¬ 8<(bJ t.name true S.seen).length;omega)];refine ⟨?_,fun n=>?_,?_,?_,fun n=>?_⟩
  . show S.out++[t.named t.name]=_;rw [h.out];rfl
  . show aV (bJ t.name true S.seen) n=_;rw [dQ,h.sn,List.map_append]
    grind
  . show (bJ t.name true S.seen).map Prod.fst=_;rw [tD _ _ _ (by rw [h.sq];exact hx),List.map_append,h.sq,List.map_append];rfl
  . show (jq _ _ _ _ _ _ _).2=[];rw [t1,w1,h.ps];rfl
  . show aV (jq _ _ _ _ _ _ _).1 n=false;rw [t2,h.bd,w1,w2];simp
theorem EK (fst:List UInt8->Option Tb) (chk':Ex->Bool) (doc:List UInt8):∀ (l:List Sm) (S:SP),(l.map dcS).foldl (fun s d=>dP O U chk' fst doc d s) S=S
 | [],_=>rfl
 | x::l,S=>by
  rw [List.map_cons,List.foldl_cons,show dP O U chk' fst doc (dcS x) S=S by unfold dP;exact if_neg fun q=>absurd (show (0:Int)=1 from q.1) dq];exact EK fst chk' doc l S
theorem Q7 {s:Sc} (h:Vld D J O X U Y s) (b:List UInt8):gT O U Y (msB b s) (en D J X (msB b s))=s/\(stI O U Y (msB b s) 1).bp.2=[]:=by
 have hn:=(so (List.pairwise_map.2 h.tsrt:(s.tabs.map Tb.name).Pairwise ltS)).2
 have h8:s.tabs.length<=8:=by
  have:=h.lim;rw [k7,Bool.and_eq_true] at this;exact iw.1 this.1
 have hF:KQ s.tabs (stI O U Y (msB b s) 1):=by
  unfold stI;rw [IK,show (fun n=>aL n (tmA (msB b s)))=fun n=>s.tabs.find? (fun t=>t.name==n) from (Ib (msB b s)).trans (funext fun n=>QX s b n)];show KQ s.tabs ((s.sums.map dcS++s.tabs.map dcT).foldl _ _);rw [List.foldl_append,EK];exact Ey _ _ b s.tabs [] _ (by simpa using hn) (by simpa using h8) (fun t ht=>L8 h ht) ⟨rfl,fun n=>rfl,rfl,rfl,fun n=>rfl⟩
 refine ⟨?_,hF.ps⟩
 have hk:kg (stI O U Y (msB b s) 1).bp.1 s.tabs=s.tabs:=by
  rw [zS,List.filter_eq_self];intro t ht;have h4:=h.non;simp only [ie,Bool.and_eq_true,List.all_eq_true] at h4;rw [hF.bd,Bool.not_false,Bool.true_and,List.all_eq_true];intro r hr;rw [((h4 t ht).2 r hr).1,hF.bd];rfl
 have hi:∀ k,itP (stI O U Y (msB b s) 1).bp.1 k s.tabs=s.tabs:=by
  intro k
  induction k with
  | zero=>rfl
  | succ k ih=>rw [itP,ih,hk]
 unfold gT;rw [show (msB b s).length=1 from rfl,hF.out,hi 9,pT h,N4 h.tsrt]
end
end Go.Proofs.YtcpklndelobigaaGreatDoor
