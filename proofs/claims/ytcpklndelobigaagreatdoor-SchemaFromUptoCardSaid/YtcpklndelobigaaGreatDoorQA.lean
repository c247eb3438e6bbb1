/- The states of Z, of both packages. No condition. -/
import Derived.Test.YtcpklndelobigaaGreatDoorMB
set_option linter.all false
namespace Go.Proofs.YtcpklndelobigaaGreatDoor
open Go.Proofs.YtcpklndelobigaaGreatDoor.Abs
set_option maxRecDepth 20000
set_option maxHeartbeats 4000000
def sm1 (l:List (List UInt8)):List (List UInt8×Bool):=l.map (fun n=>(n,true))
theorem ll:∀ (l:List (List UInt8)) (n:List UInt8),aO (sm1 l) n=l.contains n
 | [],n=>rfl
 | x::l,n=>by
  have ih:=ll l n;simp only [aO,sm1,List.map_cons,aC,List.contains_cons] at ih ⊢;by_cases e:n=x
  . rw [if_pos e];simp [e]
  . rw [if_neg e];rw [ih];simp [e]
theorem xL:∀ (l:List (List UInt8)) (n:List UInt8),l.contains n=false->bM n true (sm1 l)=sm1 (l++[n])
 | [],n,_=>rfl
 | x::l,n,h=>by
  rw [List.contains_cons,Bool.or_eq_false_iff] at h;have ih:=xL l n h.2;have hx:¬ n=x:=by simpa using h.1
  simp only [sm1,List.map_cons,List.cons_append,bM] at ih ⊢;rw [if_neg hx,ih]
theorem BU (l:List (List UInt8)):(sm1 l).length=l.length:=List.length_map ..
def CtI (ct L:List (List UInt8)) (lf:List Nat) (C:List (List UInt8×Bool)):Prop:=(∀ i∈lf,i<L.length)/\∀ n,aO C n=(ct.contains n || (List.range L.length).any (fun i=>!lf.contains i && (L.getD i []==n)))
def CtO (ct:List (List UInt8)) (C:List (List UInt8×Bool)):Prop:=∀ n,aO C n=ct.contains n
theorem Po {ct L:List (List UInt8)} {C:List (List UInt8×Bool)} (h:CtO ct C):CtI ct L (List.range L.length) C:=by
 refine ⟨fun i hi=>List.mem_range.1 hi,fun n=>?_⟩
 have:(List.range L.length).any (fun i=>!(List.range L.length).contains i && (L.getD i []==n))=false:=by
  rw [List.any_eq_false];intro i hi;rw [List.contains_iff_mem.2 hi];simp
 rw [this,Bool.or_false];exact h n
theorem NS {ct L:List (List UInt8)} {lf:List Nat} {C:List (List UInt8×Bool)} (h:CtI ct L lf C) {i:Nat} (hi:i∈lf):CtI ct L (lf.filter (fun j=>!(Nat.beq j i))) (bM (L.getD i []) true C):=by
 refine ⟨fun j hj=>h.1 j (List.mem_filter.1 hj).1,fun n=>?_⟩;rw [e5,h.2 n,Bool.eq_iff_iff];have hl:=h.1 i hi;constructor
 . intro q;split at q
   . rename_i e;rw [Bool.or_eq_true];right;rw [List.any_eq_true];refine ⟨i,List.mem_range.2 hl,?_⟩
     have:(lf.filter (fun j=>!(Nat.beq j i))).contains i=false:=by
      rw [Bool.eq_false_iff,Ne,List.contains_iff_mem];intro hm;have:=(List.mem_filter.1 hm).2;rw [Nat.beq_refl] at this;cases this
     rw [this,e];simp
   . rw [Bool.or_eq_true] at q ⊢;rcases q with q|q
     . exact .inl q
     . right;rw [List.any_eq_true] at q ⊢;obtain ⟨j,hj,q⟩:=q;refine ⟨j,hj,?_⟩;rw [Bool.and_eq_true,Bool.not_eq_true'] at q ⊢;refine ⟨?_,q.2⟩;rw [Bool.eq_false_iff,Ne,List.contains_iff_mem] at q ⊢;exact fun hm=>q.1 (List.mem_filter.1 hm).1
 . intro q;split
   . rfl
   . rename_i e;rw [Bool.or_eq_true] at q ⊢;rcases q with q|q
     . exact .inl q
     . right;rw [List.any_eq_true] at q ⊢;obtain ⟨j,hj,q⟩:=q;refine ⟨j,hj,?_⟩;rw [Bool.and_eq_true,Bool.not_eq_true'] at q ⊢;refine ⟨?_,q.2⟩;rw [Bool.eq_false_iff,Ne,List.contains_iff_mem] at q ⊢;intro hm;refine q.1 (List.mem_filter.2 ⟨hm,?_⟩)
       have:¬ j=i:=by
        rintro rfl;have:=q.2;exact e (by have:=eq_of_beq this;exact this.symm)
       rw [Bool.not_eq_true',<- Bool.not_eq_true,Nat.beq_eq];exact this
theorem Ni {ct L:List (List UInt8)} {C:List (List UInt8×Bool)} (h:CtI ct L [] C):CtO (ct++L) C:=by
 intro n;rw [h.2 n]
 have:(List.range L.length).any (fun i=>!([]:List Nat).contains i && (L.getD i []==n))=L.contains n:=by
  rw [Bool.eq_iff_iff,List.any_eq_true,List.contains_iff_mem];constructor
  . rintro ⟨i,hi,h⟩;have hi:=List.mem_range.1 hi;rw [List.getD_eq_getElem?_getD,List.getElem?_eq_getElem hi] at h;have h:L[i]=n:=by simpa using h
    rw [<- h];exact List.getElem_mem hi
  . intro hm;obtain ⟨i,hi,rfl⟩:=List.getElem_of_mem hm;exact ⟨i,List.mem_range.2 hi,by rw [List.getD_eq_getElem?_getD,List.getElem?_eq_getElem hi];simp⟩
 rw [this,List.contains_eq_any_beq,List.contains_eq_any_beq,List.contains_eq_any_beq,List.any_append]
structure Ku (D J:List UInt8->Bool) (X:Ct->Bool) (d:Dc):Prop where
 len:d.sum.ctors.length<=20
 hn:af cx 69 [.str d.name] (.bool (D d.name))
 hu:af cx 87 [.str d.name] (.bool (D d.name))
 hf:∀ j,j<d.sum.ctors.length->af cx 70 [.int .i64 3,.str (d.sum.ctors.getD j Ct.zero).name] (.bool (J (d.sum.ctors.getD j Ct.zero).name))
 hc:∀ j,j<d.sum.ctors.length->af cx 71 [(d.sum.ctors.getD j Ct.zero).v] (.bool (X (d.sum.ctors.getD j Ct.zero)))
 hr:∀ j,j<d.sum.ctors.length->af cx 88 [(d.sum.ctors.getD j Ct.zero).v] (.bool (J (d.sum.ctors.getD j Ct.zero).name && X (d.sum.ctors.getD j Ct.zero)))
structure mf (D J:List UInt8->Bool) (X:Ct->Bool) (V:List Md):Prop where
 n:V.length<=2
 m:∀ i,(V.getD i Md.zero).decls.length<=40
 t:(V.getD 0 Md.zero).decls.length+(V.getD 1 Md.zero).decls.length<=12
 d:∀ i,i<V.length->∀ k,k<(V.getD i Md.zero).decls.length->((V.getD i Md.zero).decls.getD k Dc.zero).kind=0->Ku D J X ((V.getD i Md.zero).decls.getD k Dc.zero)
section
variable (D J:List UInt8->Bool) (X:Ct->Bool) (V:List Md)
def d4 (c:Ct):Bool:=J c.name && X c
def pI (i:Nat):SU:=mF (dSm D (d4 J X) ur) V i ⟨[],[],[]⟩
def pD (i k:Nat):SU:=dF (dSm D (d4 J X) ur) (V.getD i Md.zero).name (V.getD i Md.zero).decls k (pI D J X V i)
def rI (i:Nat):SU:=mF (dSm D (d4 J X) sW) V i ⟨[],[],[]⟩
def rD (i k:Nat):SU:=dF (dSm D (d4 J X) sW) (V.getD i Md.zero).name (V.getD i Md.zero).decls k (rI D J X V i)
def kC:List Sm:=fP (pI D J X V V.length).out.length (pI D J X V V.length).out
end
section
variable {D J:List UInt8->Bool} {X:Ct->Bool} {V:List Md}
theorem wz (i:Nat):CI (pI D J X V i) (rI D J X V i):=y6 (fun doc d s s' h=>tf D _ doc d s s' h) V D1 i
theorem Fp (i k:Nat):CI (pD D J X V i k) (rD D J X V i k):=vQ (fun doc d s s' h=>tf D _ doc d s s' h) _ _ (wz i) k
theorem Hd:(rI D J X V V.length).out=kC D J X V:=(Dj (wz V.length)).symm
theorem O2 (i k:Nat):pD D J X V i (k+1)=dSm D (d4 J X) ur (V.getD i Md.zero).name ((V.getD i Md.zero).decls.getD k Dc.zero) (pD D J X V i k):=rfl
theorem yV {i k:Nat} (h:k=(V.getD i Md.zero).decls.length):pD D J X V i k=pI D J X V (i+1):=by rw [h];rfl
theorem LR {i k:Nat} (h:k=(V.getD i Md.zero).decls.length):rD D J X V i k=rI D J X V (i+1):=by rw [h];rfl
end
section
variable {D:List UInt8->Bool} {cok:Ct->Bool} {ins:Sm->List Sm->List Sm} {doc:List UInt8} {d:Dc} {s:SU}
theorem Pl (h:¬ d.kind=0):dSm D cok ins doc d s=s:=by unfold dSm;rw [if_neg (fun q=>h q.1)]
theorem NY (h:s.seen.contains d.name=true):dSm D cok ins doc d s=s:=by unfold dSm;rw [if_neg (fun q=>by rw [h] at q;exact absurd q.2 zq)]
theorem Oa (h:d.kind=0) (h2:s.seen.contains d.name=false) (h3:okS D cok s.ct d=false):dSm D cok ins doc d s=⟨s.seen++[d.name],s.ct,s.out⟩:=by
 unfold dSm;rw [if_pos ⟨h,h2⟩,if_neg (by rw [h3];decide)]
theorem NH (h:d.kind=0) (h2:s.seen.contains d.name=false) (h3:okS D cok s.ct d=true):dSm D cok ins doc d s=⟨s.seen++[d.name],s.ct++d.sum.ctors.map Ct.name,ins (sP d) s.out⟩:=by
 unfold dSm;rw [if_pos ⟨h,h2⟩,if_pos h3]
theorem J6 {C:List (List UInt8)} {l:List Ct} {j:Nat} (h:(cok (l.getD j Ct.zero) && !((l.take j).map Ct.name).contains (l.getD j Ct.zero).name && !C.contains (l.getD j Ct.zero).name)=false):∀ n,j<n->okC cok C l n=false
 | 0,q=>absurd q (Nat.not_lt_zero j)
 | n+1,q=>by
  rw [okC];rcases Nat.lt_succ_iff_lt_or_eq.1 q with q|rfl
  . rw [J6 h n q,Bool.false_and]
  . rw [h,Bool.and_false]
theorem M0 {C:List (List UInt8)} {l:List Ct} {j:Nat} (h0:okC cok C l j=true) (h1:cok (l.getD j Ct.zero)=true) (h2:((l.take j).map Ct.name).contains (l.getD j Ct.zero).name=false) (h3:C.contains (l.getD j Ct.zero).name=false):okC cok C l (j+1)=true:=by
 rw [okC,h0,h1,h2,h3];rfl
theorem A8 (h:D d.name=false):okS D cok s.ct d=false:=by unfold okS;rw [h];rfl
theorem yd (h:d.sum.ctors.length=0):okS D cok s.ct d=false:=by unfold okS;rw [List.length_eq_zero_iff.1 h];simp
theorem Bz {j:Nat} (hj:j<d.sum.ctors.length) (h:(cok (d.sum.ctors.getD j Ct.zero) && !((d.sum.ctors.take j).map Ct.name).contains (d.sum.ctors.getD j Ct.zero).name && !s.ct.contains (d.sum.ctors.getD j Ct.zero).name)=false):okS D cok s.ct d=false:=by
 unfold okS;rw [J6 h _ hj,Bool.and_false,Bool.false_and]
theorem B4 {j:Nat} (hj:¬ j<d.sum.ctors.length) (hj2:j<=d.sum.ctors.length) (h0:¬ d.sum.ctors.length=0) (hn:D d.name=true) (h:okC cok s.ct d.sum.ctors j=true):okS D cok s.ct d=true:=by
 have e:j=d.sum.ctors.length:=by omega
 rw [e] at h
 have he:d.sum.ctors.isEmpty=false:=by
  rw [Bool.eq_false_iff,Ne,List.isEmpty_iff];intro q;exact h0 (by rw [q];rfl)
 unfold okS;rw [h,hn,he];rfl
theorem Kr (l:List Ct) {j:Nat} (h:j<l.length):(l.take (j+1)).map Ct.name=(l.take j).map Ct.name++[(l.getD j Ct.zero).name]:=by
 rw [cm l Ct.zero j h,List.map_append];rfl
theorem LC (D:List UInt8->Bool) (cok:Ct->Bool) (doc:List UInt8) (d:Dc) (s:SU) (hd:d.kind=0->d.sum.ctors.length<=20):(dSm D cok ur doc d s).seen.length<=s.seen.length+1/\(dSm D cok ur doc d s).out.length<=s.out.length+1/\(dSm D cok ur doc d s).ct.length<=s.ct.length+20:=by
 unfold dSm;split
 . rename_i h;have:=hd h.1;split <;> simp [ur] <;> omega
 . omega
end
section
variable {D J:List UInt8->Bool} {X:Ct->Bool} {V:List Md}
def SzS (s:SU) (n:Nat):Prop:=s.seen.length<=n/\s.out.length<=n/\s.ct.length<=20 * n
theorem xA (hf:mf D J X V) {i:Nat} (hi:i<V.length) {n:Nat} (h0:SzS (pI D J X V i) n):∀ k,k<=(V.getD i Md.zero).decls.length->SzS (pD D J X V i k) (n+k)
 | 0,_=>h0
 | k+1,h=>by
  have h1:=xA hf hi h0 k oq;have h2:=LC D (d4 J X) (V.getD i Md.zero).name ((V.getD i Md.zero).decls.getD k Dc.zero) (pD D J X V i k) (fun q=>(hf.d i hi k oq q).len);rw [O2];obtain ⟨a,b,c⟩:=h1;refine ⟨?_,?_,?_⟩ <;> omega
theorem Ff (hf:mf D J X V):∀ i,i<=V.length->SzS (pI D J X V i) (40 * i)
 | 0,_=>⟨Nat.le_refl _,Nat.le_refl _,Nat.le_refl _⟩
 | i+1,h=>by
  have h1:=Ff hf i oq;obtain ⟨a,b,c⟩:=xA hf (by omega:i<V.length) h1 _ (Nat.le_refl _);have:=hf.m i;show SzS (pD D J X V i (V.getD i Md.zero).decls.length) _;refine ⟨?_,?_,?_⟩ <;> omega
theorem Rt (hf:mf D J X V):(pI D J X V V.length).out.length<=12:=by
 have h0:SzS (pI D J X V 0) 0:=⟨Nat.le_refl _,Nat.le_refl _,Nat.le_refl _⟩;have hn:=hf.n;have ht:=hf.t;have h1:0<V.length->SzS (pI D J X V 1) (0+(V.getD 0 Md.zero).decls.length):=fun h=>xA hf h h0 _ (Nat.le_refl _)
 have h2:1<V.length->SzS (pI D J X V 2) (0+(V.getD 0 Md.zero).decls.length+(V.getD 1 Md.zero).decls.length):=fun h=>xA hf h (h1 oq) _ (Nat.le_refl _)
 rcases (by omega:V.length=0\/V.length=1\/V.length=2) with e|e|e <;> rw [e]
 . exact Nat.le_trans h0.2.1 dq
 . have:=(h1 oq).2.1;omega
 . have:=(h2 oq).2.1;omega
theorem szI (hf:mf D J X V) {i:Nat} (hi:i<=V.length):SzS (pI D J X V i) 80/\(rI D J X V i).out.length<=80:=by
 obtain ⟨a,b,c⟩:=Ff hf i hi;have:=hf.n;have hp:=(wz (D:=D) (J:=J) (X:=X) (V:=V) i).perm.length_eq;exact ⟨⟨by omega,by omega,by omega⟩,by omega⟩
theorem szD (hf:mf D J X V) {i k:Nat} (hi:i<V.length) (hk:k<=(V.getD i Md.zero).decls.length):SzS (pD D J X V i k) 120/\(rD D J X V i k).out.length<=120:=by
 have h0:=Ff hf i oq;obtain ⟨a,b,c⟩:=xA hf hi h0 k hk;have:=hf.n;have:=hf.m i;have hp:=(Fp (D:=D) (J:=J) (X:=X) (V:=V) i k).perm.length_eq;exact ⟨⟨by omega,by omega,by omega⟩,by omega⟩
theorem K5 {D:List UInt8->Bool} {cok:Ct->Bool} {doc:List UInt8} {d:Dc} {s:SU} {t:Sm} (h:t∈(dSm D cok ur doc d s).out):t∈s.out\/(d.kind=0/\t=sP d):=by
 unfold dSm at h;split at h
 . rename_i hk;split at h
   . rcases List.mem_append.1 h with h|h
     . exact .inl h
     . rw [List.mem_singleton] at h;exact .inr ⟨hk.1,h⟩
   . exact .inl h
 . exact .inl h
theorem EP {i:Nat} {t:Sm}:∀ k,k<=(V.getD i Md.zero).decls.length->t∈(pD D J X V i k).out->t∈(pI D J X V i).out\/∃ k',k'<(V.getD i Md.zero).decls.length/\((V.getD i Md.zero).decls.getD k' Dc.zero).kind=0/\t=sP ((V.getD i Md.zero).decls.getD k' Dc.zero)
 | 0,_,h=>.inl h
 | k+1,hk,h=>by
  rw [O2] at h;rcases K5 h with h|⟨h1,h2⟩
  . exact EP k oq h
  . exact .inr ⟨k,by omega,h1,h2⟩
theorem Fm {t:Sm}:∀ i,i<=V.length->t∈(pI D J X V i).out->∃ i',i'<V.length/\∃ k',k'<(V.getD i' Md.zero).decls.length/\((V.getD i' Md.zero).decls.getD k' Dc.zero).kind=0/\t=sP ((V.getD i' Md.zero).decls.getD k' Dc.zero)
 | 0,_,h=>by cases h
 | i+1,hi,h=>by
  rcases EP (i:=i) _ (Nat.le_refl _) h with h|⟨k,hk,h1,h2⟩
  . exact Fm i oq h
  . exact ⟨i,by omega,k,hk,h1,h2⟩
theorem rl {t:Sm} (h:t∈kC D J X V):∃ i,i<V.length/\∃ k,k<(V.getD i Md.zero).decls.length/\((V.getD i Md.zero).decls.getD k Dc.zero).kind=0/\t=sP ((V.getD i Md.zero).decls.getD k Dc.zero) :=
 Fm V.length (Nat.le_refl _) ((je _ _ (Nat.le_refl _)).mem_iff.1 h)
theorem sy (hf:mf D J X V):(kC D J X V).length<=80:=by
 have h:=(je (pI D J X V V.length).out _ (Nat.le_refl _)).length_eq;have:=(szI hf (Nat.le_refl V.length)).1.2.1;unfold kC;omega
end
end Go.Proofs.YtcpklndelobigaaGreatDoor
