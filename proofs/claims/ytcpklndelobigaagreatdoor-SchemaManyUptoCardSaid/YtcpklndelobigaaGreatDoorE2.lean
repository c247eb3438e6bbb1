/- What From makes of the fq of a workspace, in the program's way and in the reference's: both are the same. No condition. -/
import Derived.Test.YtcpklndelobigaaGreatDoorE1
set_option linter.all false
namespace Go.Proofs.YtcpklndelobigaaGreatDoor
open Go.Proofs.YtcpklndelobigaaGreatDoor.Abs
def Tb.named (t:Tb) (n:List UInt8):Tb:=⟨n,t.cols,t.key,t.refs,t.chk⟩
section
variable {σ:Type} (f:List UInt8→Dc→σ→σ)
def dF (doc:List UInt8) (ds:List Dc):Nat→σ→σ
 | 0,s=>s
 | k+1,s=>f doc (ds.getD k Dc.zero) (dF doc ds k s)
def mF (ms:List Md):Nat→σ→σ
 | 0,s=>s
 | i+1,s=>dF f (ms.getD i Md.zero).name (ms.getD i Md.zero).decls (ms.getD i Md.zero).decls.length (mF ms i s)
end
theorem rr {σ τ:Type} {f:List UInt8→Dc→σ→σ} {g:List UInt8→Dc→τ→τ} {R:σ→τ→Prop} (hR:∀ doc d s s',R s s'→R (f doc d s) (g doc d s')) (doc ds) {s s'} (h:R s s'):∀ k,R (dF f doc ds k s) (dF g doc ds k s')
 | 0=>h
 | k+1=>hR _ _ _ _ (rr hR doc ds h k)
theorem wi {σ τ:Type} {f:List UInt8→Dc→σ→σ} {g:List UInt8→Dc→τ→τ} {R:σ→τ→Prop} (hR:∀ doc d s s',R s s'→R (f doc d s) (g doc d s')) (ms) {s s'} (h:R s s'):∀ i,R (mF f ms i s) (mF g ms i s')
 | 0=>h
 | i+1=>rr hR _ _ (wi hR ms h i) _
def gtS (a b:List UInt8):Bool:=!(aX a b || a==b)
def dH (l:List Tb) (n:List UInt8):Nat→Nat
 | 0=>0
 | a+1=>if gtS (l.getD a Tb.zero).name n=true then dH l n a else a+1
def nE (t:Tb) (l:List Tb):List Tb:=l.take (dH l t.name l.length)++[t]++l.drop (dH l t.name l.length)
theorem kI:∀ (a b c:List UInt8),aX a b=true→aX b c=true→aX a c=true
 | _,_,[],_,h=>by simp [aX,Op.bytesLess] at h
 | _,[],_::_,h,_=>by simp [aX,Op.bytesLess] at h
 | [],_::_,_::_,_,_=>by simp [aX,Op.bytesLess]
 | x::a,y::b,z::c,h1,h2=>by
  simp only [aX,Op.bytesLess,Bool.or_eq_true,Bool.and_eq_true,decide_eq_true_eq,beq_iff_eq] at h1 h2 ⊢
  rcases h1 with h1|⟨rfl,h1⟩ <;> rcases h2 with h2|⟨rfl,h2⟩
  · exact .inl (UInt8.lt_trans h1 h2)
  · exact .inl h1
  · exact .inl h2
  · exact .inr ⟨rfl,kI a b c h1 h2⟩
theorem jM:∀ a:List UInt8,aX a a=false
 | []=>rfl
 | x::a=>by simp [aX,Op.bytesLess];exact jM a
theorem kJ:∀ a b:List UInt8,aX a b=false→a=b∨aX b a=true
 | [],[],_=>.inl rfl
 | [],_::_,h=>by simp [aX,Op.bytesLess] at h
 | _::_,[],_=>.inr (by simp [aX,Op.bytesLess])
 | x::a,y::b,h=>by
  simp only [aX,Op.bytesLess,Bool.or_eq_false_iff,decide_eq_false_iff_not,Bool.and_eq_false_iff] at h
  simp only [aX,Op.bytesLess,Bool.or_eq_true,Bool.and_eq_true,decide_eq_true_eq,beq_iff_eq]
  by_cases e:x=y
  · subst e
    rcases h.2 with h2|h2
    · simp at h2
    · rcases kJ a b h2 with rfl|h3
      · exact .inl rfl
      · exact .inr (.inr ⟨rfl,h3⟩)
  · right;left
    rcases UInt8.lt_or_lt_of_ne (Ne.symm e) with h3|h3
    · exact h3
    · exact absurd h3 h.1
theorem fy {a b c:List UInt8} (h:aX a b=true) (k:aX b c=true):aX a c=true:=kI a b c h k
theorem jC (a:List UInt8):aX a a=false:=jM a
theorem jn {a b:List UInt8} (h:aX a b=false):a=b∨aX b a=true:=kJ a b h
theorem sS {a b:List UInt8}:gtS a b=true↔aX b a=true:=by
 unfold gtS
 constructor
 · intro h
   simp at h
   rcases jn h.1 with e|e
   · exact absurd e h.2
   · exact e
 · intro h
   simp
   refine ⟨?_,fun e=>?_⟩
   · cases q:aX a b with
     | false=>rfl
     | true=>exact absurd (fy h q) (by simp [jC])
   · rw [e,jC] at h;exact absurd h zq
def rq (l:List Tb):Prop:=l.Pairwise (fun a b=>aX a.name b.name=true)
theorem s7 (l:List Tb) (n):∀ a,dH l n a≤a
 | 0=>Nat.le_refl _
 | a+1=>by unfold dH;split <;> have:=s7 l n a <;> omega
theorem tB (l:List Tb) (n):∀ a k,dH l n a≤k→k<a→gtS (l.getD k Tb.zero).name n=true
 | 0,k,_,h=>by omega
 | a+1,k,h1,h2=>by
  unfold dH at h1;split at h1
  · rename_i hg
    by_cases e:k=a
    · rw [e];exact hg
    · exact tB l n a k h1 oq
  · omega
theorem sn (l:List Tb) (n):∀ a,0<dH l n a→gtS (l.getD (dH l n a - 1) Tb.zero).name n=false
 | 0,h=>by simp [dH] at h
 | a+1,h=>by
  unfold dH at h ⊢;split
  · rename_i hg;rw [if_pos hg] at h;exact sn l n a h
  · rename_i hg;simpa using hg
theorem bJ {α:Type} (l:List α) (d:α) (i:Nat) (h:i<l.length):l.getD i d=l[i]:=by
 rw [List.getD_eq_getElem?_getD,List.getElem?_eq_getElem h];rfl
theorem tV (t:Tb) (l:List Tb):(nE t l).Perm (t::l):=by
 unfold nE
 have:=(List.perm_middle (a:=t) (l₁:=l.take (dH l t.name l.length)) (l₂:=l.drop (dH l t.name l.length)))
 rw [List.take_append_drop] at this
 simpa using this
theorem vS {t:Tb} {l:List Tb} (h:rq l) (hn:∀ x∈l,x.name≠t.name):rq (nE t l):=by
 have hp:=s7 l t.name l.length
 have hgt:=tB l t.name l.length
 have hng:=sn l t.name l.length
 unfold nE
 generalize dH l t.name l.length=p at *
 have hlow:∀ a∈l.take p,aX a.name t.name=true:=by
  intro a ha
  obtain ⟨i,hi,rfl⟩:=List.getElem_of_mem ha
  rw [List.length_take] at hi
  rw [List.getElem_take]
  have hq:=hng oq
  rw [bJ l _ _ oq] at hq
  have h1:aX (l[p - 1]' oq).name t.name=true:=by
   cases e:aX (l[p - 1]' oq).name t.name with
   | true=>rfl
   | false =>
    rcases jn e with e|e
    · exact absurd e (hn _ (List.getElem_mem _))
    · rw [sS.2 e] at hq;exact absurd hq zq
  by_cases e:i=p - 1
  · subst e;exact h1
  · exact fy (List.pairwise_iff_getElem.1 h i (p - 1) oq oq oq) h1
 have hhi:∀ b∈l.drop p,aX t.name b.name=true:=by
  intro b hb
  obtain ⟨i,hi,rfl⟩:=List.getElem_of_mem hb
  rw [List.length_drop] at hi
  rw [List.getElem_drop]
  have:=hgt (p+i) oq oq
  rw [bJ l _ _ oq] at this
  exact sS.1 this
 refine List.pairwise_append.2 ⟨List.pairwise_append.2 ⟨h.sublist (List.take_sublist _ _),List.pairwise_singleton _ _,?_⟩,h.sublist (List.drop_sublist _ _),?_⟩
 · intro a ha b hb;rw [List.mem_singleton] at hb;subst hb;exact hlow a ha
 · intro a ha b hb
   rcases List.mem_append.1 ha with ha|ha
   · exact fy (hlow a ha) (hhi b hb)
   · rw [List.mem_singleton] at ha;subst ha;exact hhi b hb
structure SP where
 seen:List (List UInt8×Bool)
 out:List Tb
 bp:BP
structure SR where
 seen:List (List UInt8)
 out:List Tb
 ps:List Pb
section
variable (low:List UInt8→Bool) (sto:Ty→Bool) (chk:Ex→Bool) (fst:List UInt8→Option Tb)
def dP (doc:List UInt8) (d:Dc) (s:SP):SP :=
 if d.kind=1∧aF s.seen d.name=false then
  if 8<(bh d.name true s.seen).length then ⟨bh d.name true s.seen,s.out,ak doc d [] s.bp⟩
  else ⟨bh d.name true s.seen,s.out++[d.tab.named d.name],de low sto chk fst doc d s.bp⟩
 else s
def mt (n:Nat) (d:Dc):List (List (List UInt8)):=if 8<n then [[]] else (wr low sto chk fst d).1
def dR (doc:List UInt8) (d:Dc) (s:SR):SR :=
 if d.kind=1∧s.seen.contains d.name=false then
  ⟨s.seen++[d.name],if (mt low sto chk fst (s.seen++[d.name]).length d).isEmpty=true∧(wr low sto chk fst d).2=false then nE (d.tab.named d.name) s.out else s.out,
   s.ps++(mt low sto chk fst (s.seen++[d.name]).length d).map (bg doc d)⟩
 else s
end
structure um (sp:SP) (sr:SR):Prop where
 seen:sp.seen.map Prod.fst=sr.seen
 tr:∀ n,aF sp.seen n=sr.seen.contains n
 ps:sp.bp.2=sr.ps
 bad:∀ n,sr.seen.contains n=false→aF sp.bp.1 n=false
 nod:sp.out.Pairwise (fun a b=>a.name≠b.name)
 nam:∀ t∈sp.out,sr.seen.contains t.name=true
 len:sp.out.length≤8∧sp.out.length≤sp.seen.length
 perm:sr.out.Perm (sp.out.filter (fun t=>!aF sp.bp.1 t.name))
 srt:rq sr.out
theorem qE {α:Type} (n:List UInt8) (v:α):∀ l:List (List UInt8×α),(l.map Prod.fst).contains n=false→bh n v l=l++[(n,v)]
 | [],_=>rfl
 | p::l,h=>by
  simp only [List.map_cons,List.contains_cons,Bool.or_eq_false_iff] at h
  have hne:¬ n=p.1:=by simpa using h.1
  simp only [bh,if_neg hne,qE n v l h.2,List.cons_append]
theorem kC {B B':List (List UInt8×Bool)} {l:List Tb} (h:∀ t∈l,aF B' t.name=aF B t.name):l.filter (fun t=>!aF B' t.name)=l.filter (fun t=>!aF B t.name) :=
 List.filter_congr fun t ht=>by rw [h t ht]
theorem qg (low:List UInt8→Bool) (sto:Ty→Bool) (chk:Ex→Bool) (fst:List UInt8→Option Tb) (doc:List UInt8) (d:Dc) (s:SP) (s':SR) (h:um s s'):um (dP low sto chk fst doc d s) (dR low sto chk fst doc d s'):=by
 unfold dP dR
 by_cases hk:d.kind=1∧aF s.seen d.name=false
 · have hc:s'.seen.contains d.name=false:=by rw [← h.tr];exact hk.2
   rw [if_pos hk,if_pos (show d.kind=1∧s'.seen.contains d.name=false from ⟨hk.1,hc⟩)]
   have hm:bh d.name true s.seen=s.seen++[(d.name,true)]:=qE _ _ _ (by rw [h.seen];exact hc)
   have hlen:(bh d.name true s.seen).length=(s'.seen++[d.name]).length:=by rw [hm,← h.seen];simp
   have hnm:∀ t∈s.out,¬ t.name=d.name:=fun t ht e=>by
    have:=h.nam t ht;rw [e,hc] at this;exact absurd this zq
   have hseen:(bh d.name true s.seen).map Prod.fst=s'.seen++[d.name]:=by rw [hm,List.map_append,h.seen];rfl
   have htr:∀ n,aF (bh d.name true s.seen) n=(s'.seen++[d.name]).contains n:=fun n=>by
    rw [d3,h.tr n]
    by_cases e:n=d.name
    · rw [if_pos e];simp [e]
    · rw [if_neg e];simp [e]
   have hmem:∀ t∈s.out,(s'.seen++[d.name]).contains t.name=true:=fun t ht=>by
    have:=h.nam t ht;simp at this ⊢;exact .inl this
   have hsl:(bh d.name true s.seen).length=s.seen.length+1:=by rw [hm];simp
   have hcn:∀ n,(s'.seen++[d.name]).contains n=false→s'.seen.contains n=false∧¬ n=d.name:=fun n hn=>by simpa using hn
   by_cases h8:8<(bh d.name true s.seen).length
   · rw [if_pos h8]
     have hw:mt low sto chk fst (s'.seen++[d.name]).length d=[[]]:=by unfold mt;rw [if_pos oq]
     rw [hw,if_neg zq]
     have hb:∀ n,¬ n=d.name→aF (ak doc d [] s.bp).1 n=aF s.bp.1 n:=fun n hn=>by simp only [ak,d3,if_neg hn]
     refine ⟨hseen,htr,by simp [ak,h.ps],fun n hn=>?_,h.nod,hmem,⟨h.len.1,by show s.out.length≤_;rw [hsl];have:=h.len.2;omega⟩,?_,h.srt⟩
     · rw [hb n (hcn n hn).2];exact h.bad n (hcn n hn).1
     · show s'.out.Perm (s.out.filter _)
       rw [kC fun t ht=>hb t.name (hnm t ht)];exact h.perm
   · rw [if_neg h8]
     have hw:mt low sto chk fst (s'.seen++[d.name]).length d=(wr low sto chk fst d).1:=by unfold mt;rw [if_neg oq]
     rw [hw]
     obtain ⟨t1,t2⟩:=ux low sto chk fst doc d s.bp
     have hb:∀ n,¬ n=d.name→aF (de low sto chk fst doc d s.bp).1 n=aF s.bp.1 n:=fun n hn=>by rw [t2];simp [hn]
     have hd:aF (de low sto chk fst doc d s.bp).1 d.name=(!(wr low sto chk fst d).1.isEmpty || (wr low sto chk fst d).2):=by rw [t2,h.bad d.name hc];simp
     have hf:(s.out.filter (fun t=>!aF (de low sto chk fst doc d s.bp).1 t.name))=s.out.filter (fun t=>!aF s.bp.1 t.name):=kC fun t ht=>hb t.name (hnm t ht)
     refine ⟨hseen,htr,by rw [t1,h.ps],fun n hn=>?_,?_,?_,?_,?_,?_⟩
     · rw [hb n (hcn n hn).2];exact h.bad n (hcn n hn).1
     · refine List.pairwise_append.2 ⟨h.nod,List.pairwise_singleton _ _,fun a ha b hb=>?_⟩
       rw [List.mem_singleton] at hb;subst hb;exact hnm a ha
     · intro t ht
       rcases List.mem_append.1 ht with ht|ht
       · exact hmem t ht
       · rw [List.mem_singleton] at ht;subst ht;simp [Tb.named]
     · simp only [List.length_append,List.length_singleton,hsl];have:=h.len;rw [hsl] at h8;omega
     · show List.Perm _ ((s.out++[d.tab.named d.name]).filter _)
       rw [List.filter_append,hf,List.filter_cons,List.filter_nil]
       by_cases hg:(wr low sto chk fst d).1.isEmpty=true∧(wr low sto chk fst d).2=false
       · rw [if_pos hg]
         have:(!aF (de low sto chk fst doc d s.bp).1 (d.tab.named d.name).name)=true:=by show (!aF _ d.name)=true;rw [hd,hg.1,hg.2];rfl
         rw [if_pos this]
         exact ((tV _ _).trans (h.perm.cons _)).trans (List.perm_append_singleton _ _).symm
       · rw [if_neg hg]
         have:¬ (!aF (de low sto chk fst doc d s.bp).1 (d.tab.named d.name).name)=true:=by
          show ¬ (!aF _ d.name)=true;rw [hd]
          cases h1:(wr low sto chk fst d).1.isEmpty <;> cases h2:(wr low sto chk fst d).2 <;> simp_all
         rw [if_neg this,List.append_nil];exact h.perm
     · by_cases hg:(wr low sto chk fst d).1.isEmpty=true∧(wr low sto chk fst d).2=false
       · rw [if_pos hg]
         refine vS h.srt fun x hx=>?_
         have:=h.perm.mem_iff.1 hx
         exact hnm x (List.mem_filter.1 this).1
       · rw [if_neg hg];exact h.srt
 · have hc:¬ (d.kind=1∧s'.seen.contains d.name=false):=by rw [← h.tr];exact hk
   rw [if_neg hk,if_neg hc];exact h
theorem wL:um ⟨[],[],([],[])⟩ ⟨[],[],[]⟩:=⟨rfl,fun _=>rfl,rfl,fun _ _=>rfl,List.Pairwise.nil,by simp,by simp,by simp,List.Pairwise.nil⟩
def nmF (B:List (List UInt8×Bool)) (l:List Tb):Nat→List (List UInt8×Bool)
 | 0=>[]
 | i+1=>bh (l.getD i Tb.zero).name (!aF B (l.getD i Tb.zero).name) (nmF B l i)
def bF (B N:List (List UInt8×Bool)) (t:Tb):Bool:=aF B t.name || t.refs.any (fun r=>!aF N r.tab)
def dt (B:List (List UInt8×Bool)) (l:List Tb):List Tb:=l.filter (fun t=>!bF B (nmF B l l.length) t)
def ck (l:List Tb) (n:List UInt8):Bool:=l.any (fun t=>t.name==n)
def b9 (l:List Tb):List Tb:=l.filter (fun t=>t.refs.all (fun r=>ck l r.tab))
def itP (B:List (List UInt8×Bool)):Nat→List Tb→List Tb
 | 0,l=>l
 | k+1,l=>dt B (itP B k l)
def itR:Nat→List Tb→List Tb
 | 0,l=>l
 | k+1,l=>b9 (itR k l)
theorem sQ (B:List (List UInt8×Bool)) (l:List Tb) (n):∀ i,i≤l.length→aF (nmF B l i) n=(ck (l.take i) n && !aF B n)
 | 0,_=>by simp [nmF,ck,aF,ag]
 | i+1,h=>by
  have ht:l.take (i+1)=l.take i++[l.getD i Tb.zero]:=by rw [bJ l _ _ oq];exact List.take_succ_eq_append_getElem oq
  rw [nmF,d3,sQ B l n i oq,ht]
  by_cases e:n=(l.getD i Tb.zero).name
  · rw [if_pos e];simp [ck,e]
  · rw [if_neg e]
    have:((l.getD i Tb.zero).name==n)=false:=by simpa using fun q=>e q.symm
    simp only [ck,List.any_append,List.any_cons,List.any_nil,this,Bool.or_false]
theorem lE (B:List (List UInt8×Bool)) (l:List Tb):dt B l=l.filter (fun t=>!aF B t.name && t.refs.all (fun r=>ck l r.tab && !aF B r.tab)):=by
 unfold dt
 refine List.filter_congr fun t _=>?_
 have:∀ rs:List Rf,(!rs.any fun r=>!aF (nmF B l l.length) r.tab)=rs.all fun r=>ck l r.tab && !aF B r.tab:=by
  intro rs
  induction rs with
  | nil=>rfl
  | cons r rs ih=>rw [List.any_cons,List.all_cons,← ih,sQ B l r.tab l.length (Nat.le_refl _),List.take_length];cases ck l r.tab <;> cases aF B r.tab <;> simp
 unfold bF;rw [Bool.not_or,this]
theorem px (B:List (List UInt8×Bool)) (l:List Tb) (n):(ck (l.filter fun t=>!aF B t.name) n && !aF B n)=(ck l n && !aF B n):=by
 cases hb:aF B n with
 | true=>simp
 | false =>
  simp only [Bool.not_false,Bool.and_true]
  unfold ck
  rw [Bool.eq_iff_iff,List.any_eq_true,List.any_eq_true]
  constructor
  · rintro ⟨x,hx,h⟩;exact ⟨x,(List.mem_filter.1 hx).1,h⟩
  · rintro ⟨x,hx,h⟩
    refine ⟨x,List.mem_filter.2 ⟨hx,?_⟩,h⟩
    rw [beq_iff_eq.1 h,hb];rfl
theorem sj (B:List (List UInt8×Bool)) (l:List Tb):dt B l=dt B (l.filter fun t=>!aF B t.name):=by
 rw [lE,lE,List.filter_filter]
 refine List.filter_congr fun t _=>?_
 have:(t.refs.all fun r=>ck (l.filter fun t=>!aF B t.name) r.tab && !aF B r.tab)=t.refs.all fun r=>ck l r.tab && !aF B r.tab:=by
  congr 1;funext r;exact px B l r.tab
 rw [this];cases aF B t.name <;> simp
theorem uo {B:List (List UInt8×Bool)} {l:List Tb} (h:∀ t∈l,aF B t.name=false):dt B l=b9 l:=by
 rw [lE]
 refine List.filter_congr fun t ht=>?_
 rw [h t ht,Bool.not_false,Bool.true_and]
 congr 1;funext r
 cases e:ck l r.tab with
 | false=>rfl
 | true =>
  obtain ⟨x,hx,q⟩:=List.any_eq_true.1 e
  rw [← beq_iff_eq.1 q,h x hx];rfl
theorem fF (l:List Tb):(b9 l).Sublist l:=List.filter_sublist
theorem jd (l:List Tb):∀ k,(itR k l).Sublist l
 | 0=>List.Sublist.refl _
 | k+1=>(fF _).trans (jd l k)
theorem oi {B:List (List UInt8×Bool)} {l:List Tb} (h:∀ t∈l,aF B t.name=false):∀ k,itP B k l=itR k l
 | 0=>rfl
 | k+1=>by
  rw [itP,itR,oi h k]
  exact uo fun t ht=>h t ((jd l k).subset ht)
theorem mg (B:List (List UInt8×Bool)) (l:List Tb):∀ k,itP B (k+1) l=itP B (k+1) (l.filter fun t=>!aF B t.name)
 | 0=>sj B l
 | k+1=>by rw [itP,mg B l k];rfl
theorem mh {l r:List Tb} (h:l.Perm r):(b9 l).Perm (b9 r):=by
 have e:(fun t:Tb=>t.refs.all (fun x=>ck l x.tab))=fun t=>t.refs.all (fun x=>ck r x.tab):=by
  funext t;congr 1;funext x
  unfold ck
  rw [Bool.eq_iff_iff,List.any_eq_true,List.any_eq_true]
  exact ⟨fun ⟨y,hy,q⟩=>⟨y,h.mem_iff.1 hy,q⟩,fun ⟨y,hy,q⟩=>⟨y,h.mem_iff.2 hy,q⟩⟩
 unfold b9;rw [e];exact h.filter _
theorem o7 {l r:List Tb} (h:l.Perm r):∀ k,(itR k l).Perm (itR k r)
 | 0=>h
 | k+1=>mh (o7 h k)
theorem ii {l:List Tb} {k:Nat} (h:b9 (itR k l)=itR k l):∀ j,itR (k+j) l=itR k l
 | 0=>rfl
 | j+1=>by rw [← Nat.add_assoc,itR,ii h j,h]
theorem ge {l r:List Tb} (h:l.Sublist r) (e:r.length≤l.length):l=r:=h.eq_of_length_le e
theorem wb {l:List Tb} {a b:Nat} (ha:b9 (itR a l)=itR a l) (hb:b9 (itR b l)=itR b l):itR a l=itR b l:=by
 rcases Nat.le_total a b with h|h
 · obtain ⟨c,rfl⟩:=Nat.le.dest h;exact (ii ha c).symm
 · obtain ⟨c,rfl⟩:=Nat.le.dest h;exact ii hb c
theorem rm {sp:SP} {sr:SR} (h:um sp sr) {k k':Nat} (h1:(itP sp.bp.1 k sp.out).length≤(dt sp.bp.1 (itP sp.bp.1 k sp.out)).length) (h2:(itR k' sr.out).length≤(b9 (itR k' sr.out)).length) {l:List Tb} (hl:l.Perm (itP sp.bp.1 k sp.out)) (hs:rq l):l=itR k' sr.out:=by
 have f1:dt sp.bp.1 (itP sp.bp.1 k sp.out)=itP sp.bp.1 k sp.out:=ge List.filter_sublist h1
 have f2:b9 (itR k' sr.out)=itR k' sr.out:=ge (fF _) h2
 have hg:∀ t∈sp.out.filter (fun t=>!aF sp.bp.1 t.name),aF sp.bp.1 t.name=false:=fun t ht=>by simpa using (List.mem_filter.1 ht).2
 have e1:itP sp.bp.1 (k+1) sp.out=itR (k+1) (sp.out.filter fun t=>!aF sp.bp.1 t.name):=by rw [mg,oi hg]
 have e2:b9 (itR (k+1) (sp.out.filter fun t=>!aF sp.bp.1 t.name))=itR (k+1) (sp.out.filter fun t=>!aF sp.bp.1 t.name):=by
  have:itP sp.bp.1 (k+2) sp.out=itR (k+2) (sp.out.filter fun t=>!aF sp.bp.1 t.name):=by rw [mg,oi hg]
  show itR (k+2) _=_
  rw [← this,← e1]
  show dt _ (dt _ (itP _ k _))=dt _ (itP _ k _)
  rw [f1,f1]
 have p1:(itR k' sr.out).Perm (itR k' (sp.out.filter fun t=>!aF sp.bp.1 t.name)):=o7 h.perm k'
 have e3:b9 (itR k' (sp.out.filter fun t=>!aF sp.bp.1 t.name))=itR k' (sp.out.filter fun t=>!aF sp.bp.1 t.name):=by
  refine ge (fF _) ?_
  rw [← p1.length_eq,← (mh p1).length_eq,f2]
  exact Nat.le_refl _
 have p2:l.Perm (itR k' sr.out):=by
  refine hl.trans ?_
  rw [← f1]
  show (itP _ (k+1) _).Perm _
  rw [e1,wb e2 e3];exact p1.symm
 have hs2:rq (itR k' sr.out):=h.srt.sublist (jd _ _)
 refine List.Perm.eq_of_pairwise (le:=fun a b:Tb=>aX a.name b.name=true) (fun a b _ _ q1 q2=>?_) hs hs2 p2
 exact absurd (fy q1 q2) (by simp [jC])
def lK (l:List Tb) (j:Nat):List Tb:=(l.set j (l.getD (j - 1) Tb.zero)).set (j - 1) (l.getD j Tb.zero)
def eU:Nat→List Tb→List Tb
 | 0,l=>l
 | j+1,l=>if aX (l.getD (j+1) Tb.zero).name (l.getD j Tb.zero).name=true then eU j (lK l (j+1)) else l
def dE:Nat→List Tb→List Tb
 | 0,l=>l
 | i+1,l=>eU i (dE i l)
theorem ju (l:List Tb) (j):(lK l j).length=l.length:=by simp [lK]
theorem lN {α:Type} (l:List α) (d x:α) (i k:Nat) (h:i<l.length):(l.set i x).getD k d=if k=i then x else l.getD k d:=by
 simp only [List.getD_eq_getElem?_getD,List.getElem?_set]
 by_cases e:i=k
 · subst e;simp [h]
 · rw [if_neg e,if_neg (fun q=>e q.symm)]
theorem jE (l:List Tb) {j k:Nat} (hj:j+1<l.length):(lK l (j+1)).getD k Tb.zero=if k=j+1 then l.getD j Tb.zero else if k=j then l.getD (j+1) Tb.zero else l.getD k Tb.zero:=by
 unfold lK
 rw [Nat.add_sub_cancel,lN _ _ _ _ _ (by rw [List.length_set];omega),lN _ _ _ _ _ hj]
 by_cases h1:k=j
 · subst h1;rw [if_pos rfl,if_neg oq,if_pos rfl]
 · rw [if_neg h1,if_neg h1]
theorem uO (l:List Tb) {j:Nat} (hj:j+1<l.length):(lK l (j+1)).Perm l:=by
 have e:lK l (j+1)=(l.set (j+1) l[j]).set j l[j+1]:=by
  unfold lK;rw [Nat.add_sub_cancel,bJ l _ _ oq,bJ l _ _ hj]
 rw [e,List.set_comm _ _ oq];exact List.set_set_perm oq hj
theorem o6:∀ (j:Nat) (l:List Tb),(eU j l).length=l.length
 | 0,l=>rfl
 | j+1,l=>by unfold eU;split;rw [o6 j,ju];rfl
theorem fM (l:List Tb):∀ i,(dE i l).length=l.length
 | 0=>rfl
 | i+1=>by rw [dE,o6,fM l i]
theorem nq:∀ (j:Nat) (l:List Tb),j<l.length→(eU j l).Perm l
 | 0,l,_=>List.Perm.refl _
 | j+1,l,h=>by
  unfold eU;split
  · exact (nq j _ (by rw [ju];omega)).trans (uO l h)
  · exact List.Perm.refl _
theorem ib (l:List Tb):∀ i,i≤l.length→(dE i l).Perm l
 | 0,_=>List.Perm.refl _
 | i+1,h=>(nq i _ (by rw [fM];omega)).trans (ib l i oq)
def leN (a b:Tb):Prop:=aX b.name a.name=false
theorem zX {a b c:Tb} (h:leN a b) (k:leN b c):leN a c:=by
 unfold leN at *
 cases e:aX c.name a.name with
 | false=>rfl
 | true =>
  rcases jn h with q|q
  · rw [q,e] at k;exact absurd k zq
  · exact absurd (fy e q) (by simp [k])
theorem zL {a b:Tb} (h:aX a.name b.name=true):leN a b:=by
 unfold leN
 cases e:aX b.name a.name with
 | false=>rfl
 | true=>exact absurd (fy h e) (by simp [jC])
def Mid (l:List Tb) (i j:Nat):Prop:=(∀ a b,a<b→b≤i→a≠j→b≠j→leN (l.getD a Tb.zero) (l.getD b Tb.zero))∧∀ b,j<b→b≤i→leN (l.getD j Tb.zero) (l.getD b Tb.zero)
theorem tw {i:Nat}:∀ (j:Nat) (l:List Tb),j≤i→i<l.length→Mid l i j→∀ a b,a<b→b≤i→leN ((eU j l).getD a Tb.zero) ((eU j l).getD b Tb.zero)
 | 0,l,_,_,h,a,b,hab,hb=>by
  show leN (l.getD a Tb.zero) (l.getD b Tb.zero)
  by_cases e:a=0
  · subst e;exact h.2 b hab hb
  · exact h.1 a b hab hb e oq
 | j+1,l,hj,hi,h,a,b,hab,hb=>by
  unfold eU;split
  · rename_i hlt
    refine tw j _ oq (by rw [ju];exact hi) ⟨fun a b hab hb ha hb'=>?_,fun b hjb hb=>?_⟩ a b hab hb
    · rw [jE l oq,jE l oq,if_neg ha,if_neg hb']
      by_cases e1:a=j+1
      · rw [if_pos e1,if_neg oq]
        exact h.1 j b oq hb oq oq
      · rw [if_neg e1]
        by_cases e2:b=j+1
        · rw [if_pos e2];exact h.1 a j oq oq e1 oq
        · rw [if_neg e2];exact h.1 a b hab hb e1 e2
    · rw [jE l oq,jE l oq,if_neg oq,if_pos rfl]
      by_cases e2:b=j+1
      · rw [if_pos e2];exact zL hlt
      · rw [if_neg e2,if_neg oq];exact h.2 b oq hb
  · rename_i hlt
    have hle:leN (l.getD j Tb.zero) (l.getD (j+1) Tb.zero):=by unfold leN;simpa using hlt
    by_cases e1:a=j+1
    · subst e1;exact h.2 b hab hb
    · by_cases e2:b=j+1
      · subst e2
        by_cases e3:a=j
        · subst e3;exact hle
        · exact zX (h.1 a j oq oq e1 oq) hle
      · exact h.1 a b hab hb e1 e2
theorem pT (l:List Tb):∀ i,i≤l.length→∀ a b,a<b→b<i→leN ((dE i l).getD a Tb.zero) ((dE i l).getD b Tb.zero)
 | 0,_,a,b,_,h=>by omega
 | i+1,hi,a,b,hab,hb=>by
  refine tw i (dE i l) (Nat.le_refl _) (by rw [fM];omega) ⟨fun a b hab hb ha hb'=>?_,fun b h1 h2=>by omega⟩ a b hab oq
  exact pT l i oq a b hab oq
theorem vW {l:List Tb} (h:l.Pairwise (fun a b=>a.name≠b.name)):rq (dE l.length l):=by
 have hp:=ib l l.length (Nat.le_refl _)
 have hn:(dE l.length l).Pairwise (fun a b=>a.name≠b.name):=hp.symm.pairwise h (fun h e=>h e.symm)
 refine List.pairwise_iff_getElem.2 fun a b ha hb hab=>?_
 have h1:=pT l l.length (Nat.le_refl _) a b hab (by rw [fM] at hb;exact hb)
 rw [bJ _ _ _ ha,bJ _ _ _ hb] at h1
 rcases jn h1 with e|e
 · exact absurd e.symm (List.pairwise_iff_getElem.1 hn a b ha hb hab)
 · exact e
end Go.Proofs.YtcpklndelobigaaGreatDoor
