/- A part of the proof: plain lemmas, rules and walks. No condition. -/
import Derived.Test.YtdikgijfekfaoaaGreatDoorP6
set_option linter.all false
namespace Go.Proofs.YtdikgijfekfaoaaGreatDoor
open Go.Proofs.YtdikgijfekfaoaaGreatDoor.Abs
set_option maxRecDepth 20000
set_option maxHeartbeats 4000000
theorem Dj.row {σ:Int→Ty} {t:Ty} (h:Dj σ t) (h5:t.kind=5) (hn:t.n≠0):∀ s∈t.names,fg s (σ t.n)=none:=by cases h with|mk _ hr _=>exact hr h5 hn
theorem Dj.kid {σ:Int→Ty} {t k:Ty} (h:Dj σ t) (hk:k∈t.kids):Dj σ k:=by cases h with|mk _ _ hd=>exact hd k hk
theorem okG.kid' {σ:Int→Ty} {t k:Ty} (h:okG σ t) (hk:k∈t.kids):okG σ k:=fun o ho=>h o (iw hk ho)
theorem oW {σ:Int→Ty} {t:Ty} (hg:Gt t) (h5:t.kind=5) (ho:okG σ t) (hd:Dj σ t) {s:List UInt8} {x:Ty} (h:fg s t=some x):fg s (sub σ t)=some (sub σ x):=by
 rw [cA hg h5 ho,h]
 by_cases hn:t.n=0
 · rw [if_pos hn];rfl
 · rw [if_neg hn,hd.row h5 hn s (gM h)];rfl
theorem E5 {σ:Int→Ty} {t:Ty} (hg:Gt t) (h5:t.kind=5) (ho:okG σ t) (hn:t.n≠0) {s:List UInt8} {x:Ty} (h:fg s (σ t.n)=some x):fg s (sub σ t)=some x:=by
 rw [cA hg h5 ho,if_neg hn,h];rfl
theorem ED {σ τ:Int→Ty} {p:Ty} (hp:Gt p):∀ r,Gt r→okG σ p→okG τ r→Dj σ p→Dj τ r→sub σ p=r→sub τ r=p→∀ o∈aF p,∃ m:Int,0<m∧σ o.n=idv o.row m∧(τ m).n=o.n:=by
 induction hp with
 | leaf k x h4 h5 h6 =>
  intro r _ _ _ _ _ _ _ o ho
  rcases bD ho with h|h|⟨t',ht,_⟩
  · exact absurd h.1 h6
  · exact absurd h.1 h5
  · simp at ht
 | list t h ih =>
  intro r hr oσ oτ dσ dτ h1 h2 o ho
  rw [bu σ _ _ _ dq dq] at h1
  subst h1
  rw [bu τ _ _ _ dq dq] at h2
  simp only [List.map_cons,List.map_nil,Ty.mk.injEq,List.cons.injEq,and_true,true_and] at h2
  have hm:sub σ t∈(Ty.mk 4 [] 0 [] (List.map (sub σ) [t])).kids:=by simp
  exact ih (sub σ t) (hr.kid_G hm) (oσ.kid List.mem_cons_self) (oτ.kid' hm) (dσ.kid zq) (dτ.kid hm) rfl h2 o (Gt.occ_list ho)
 | var n hn =>
  intro r hr oσ oτ _ _ h1 h2 o ho
  rw [cQ] at h1
  have e:o=⟨n,false,[]⟩:=by
   rcases bD ho with h|h|⟨t',ht,_⟩
   · exact h.2
   · exact absurd h.1 dq
   · simp at ht
  subst e
  cases hr with
  | leaf k x h4 h5 h6=>rw [bu τ _ _ _ h6 (fun h=>absurd h h5)] at h2;simp only [Ty.mk.injEq] at h2;exact absurd h2.1 h6
  | list t h=>rw [bu τ _ _ _ dq dq] at h2;simp at h2
  | var m hm=>rw [cQ] at h2;exact ⟨m,hm,h1,by rw [h2];rfl⟩
  | rcd m ns ks h0 hs hl hk=>have:=congrArg Ty.kind h2;rw [a8 zq] at this;simp at this
 | rcd n ns ks h0 hs hl hk ih =>
  intro r hr oσ oτ dσ dτ h1 h2 o ho
  have hG:Gt (Ty.mk 5 [] n ns ks):=.rcd n ns ks h0 hs hl hk
  have r5:r.kind=5:=by rw [← h1,a8 zq];rfl
  rcases d7 (t:=.mk 5 [] n ns ks) rfl ho with ⟨hn,e⟩|⟨k,hk',hok⟩
  · have hn':n≠0:=hn
    have hw:=oσ _ (cc hn')
    have hw5:=hw.2 rfl
    have hno:∀ s,fg s (σ n)=none:=fun s=>by
     cases hx:fg s (σ n) with
     | none=>rfl
     | some x =>
      have q1:=E5 hG rfl oσ hn hx
      rw [h1] at q1
      have q2:=oW hr r5 oτ dτ q1
      rw [h2] at q2
      have q3:=dσ.row rfl hn s (gM q2)
      exact absurd (hx.symm.trans q3) zq
    have hsn:=dg (σ:=σ) (t:=Ty.mk 5 [] n ns ks) rfl
    rw [if_neg hn,h1] at hsn
    have htn:=dg (σ:=τ) (t:=r) r5
    rw [h2] at htn
    have hr0:r.n≠0:=fun h=>by rw [if_pos h] at htn;exact hn htn
    rw [if_neg hr0] at htn
    obtain ⟨s1,s2,s3,s4,s5⟩:=hw.1.sorted hw5
    rw [e]
    refine ⟨r.n,?_,?_,htn.symm⟩
    · have:0≤r.n:=(hr.sorted r5).2.2.2.1
      omega
    · refine dw hw.1 (Du (by have:0≤r.n:=(hr.sorted r5).2.2.2.1;omega)) hw5 rfl hsn.symm fun s=>?_
      rw [show ({ n:=(Ty.mk 5 [] n ns ks).n,row:=true,names:=(Ty.mk 5 [] n ns ks).names }:Occ).n=n from rfl,hno s];rfl
  · obtain ⟨s,hs'⟩:=yq (t:=Ty.mk 5 [] n ns ks) (az hs) hl hk'
    have q1:=oW hG rfl oσ dσ hs'
    rw [h1] at q1
    have q2:=oW hr r5 oτ dτ q1
    rw [h2,hs'] at q2
    have hm:=gF q1
    exact ih k hk' (sub σ k) (hr.kid_G hm) (oσ.kid hk') (oτ.kid' hm) (dσ.kid hk') (dτ.kid hm) rfl (Option.some.inj q2).symm o hok
theorem Gd {σ:Int→Ty} {p:Ty} (hp:Gt p):okG σ p→(∀ o∈aF p,∃ m:Int,0<m∧σ o.n=idv o.row m)→sub σ p=renT (fun n=>(σ n).n) p:=by
 induction hp with
 | leaf k x h4 h5 h6 =>
  intro _ _
  rw [bu σ _ _ _ h6 (fun h=>absurd h h5),renT,eV]
  simp [isV,h5,h6]
 | list t h ih =>
  intro ho hv
  rw [bu σ _ _ _ dq dq,renT,eV]
  simp only [List.map_cons,List.map_nil]
  rw [ih (ho.kid List.mem_cons_self) fun o h'=>hv o (ci List.mem_cons_self h')]
  simp [isV]
 | var n hn =>
  intro _ hv
  obtain ⟨m,h1,h2⟩:=hv _ cU
  rw [cQ,renT,eV]
  have h2:σ n=idv false m:=h2
  simp [isV,h2,idv]
 | rcd n ns ks h0 hs hl hk ih =>
  intro ho hv
  have hG:Gt (Ty.mk 5 [] n ns ks):=.rcd n ns ks h0 hs hl hk
  have hks:ks.map (renT fun n=>(σ n).n)=ks.map (sub σ):=List.map_congr_left fun k hk'=>(ih k hk' (ho.kid hk') fun o h'=>hv o (ci hk' h')).symm
  rw [renT,eV,hks]
  by_cases hn:n=0
  · subst hn
    rw [bu σ _ _ _ dq (fun _=>rfl)];simp [isV]
  · obtain ⟨m,h1,h2⟩:=hv _ (cc hn)
    have h2:σ n=idv true m:=h2
    have e:(if isV 5 n=true then (σ n).n else n)=m:=by rw [if_pos (by simp [isV,hn]),h2];rfl
    rw [e]
    refine dw (d6 hG ho) (.rcd m ns _ oq hs (by simpa using hl) fun k hk'=>?_) (by rw [a8 zq];rfl) rfl ?_ fun s=>?_
    · obtain ⟨k0,hk0,rfl⟩:=List.mem_map.1 hk'
      exact d6 (hk k0 hk0) (ho.kid hk0)
    · rw [dg rfl,if_neg (show ¬ (Ty.mk 5 [] n ns ks).n=0 from hn)]
      show (σ n).n=m
      rw [h2];rfl
    · rw [cA hG rfl ho,if_neg (show ¬ (Ty.mk 5 [] n ns ks).n=0 from hn),t7 σ s 5 5 [] [] m n ns ks]
      show (fg s (σ n)).orElse _=_
      rw [h2];rfl
theorem Gk {σ τ:Int→Ty} {p r:Ty} (hp:Gt p) (hr:Gt r) (oσ:okG σ p) (oτ:okG τ r) (dσ:Dj σ p) (dτ:Dj τ r) (h1:sub σ p=r) (h2:sub τ r=p):∀ k,lR (List.replicate k r)=lR (List.replicate k p):=fun k=>by
 have hm:=ED hp r hr oσ oτ dσ dτ h1 h2
 have e:=Gd hp oσ fun o ho=>by obtain ⟨m,a,b,_⟩:=hm o ho;exact ⟨m,a,b⟩
 rw [h1] at e
 have hr':List.replicate k r=(List.replicate k p).map (renT fun n=>(σ n).n):=by rw [List.map_replicate,← e]
 have hf:∀ n∈dW (List.replicate k p),∃ m:Int,0<m∧(σ n).n=m∧(τ m).n=n:=fun n hn=>by
  obtain ⟨t,ht,hn⟩:∃ t∈List.replicate k p,n∈dA t:=by
   generalize List.replicate k p=l at hn
   induction l with
   | nil=>simp [dW,aI] at hn
   | cons t l ih =>
    rw [dC,List.mem_append] at hn
    rcases hn with hn|hn
    · exact ⟨t,List.mem_cons_self,hn⟩
    · obtain ⟨t',a,b⟩:=ih hn;exact ⟨t',List.mem_cons_of_mem _ a,b⟩
  rw [List.eq_of_mem_replicate ht] at hn
  obtain ⟨o,ho,rfl⟩:=cr.1 hn
  obtain ⟨m,a,b,c⟩:=hm o ho
  refine ⟨m,a,?_,c⟩
  rw [b];cases o.row <;> rfl
 rw [hr']
 refine DV _ _ (fun n hn=>?_) fun a ha b hb hab=>?_
 · obtain ⟨m,q1,q2,_⟩:=hf n hn
   show (σ n).n≠0
   omega
 · obtain ⟨m,_,q2,q3⟩:=hf a ha
   obtain ⟨m',_,q2',q3'⟩:=hf b hb
   have hab:(σ a).n=(σ b).n:=hab
   rw [← q3,← q3',← q2,← q2',hab]
section
variable {S:St} {ρ:Int→Ty} (hi:Inv S) (rv:Rv S ρ)
include hi rv
theorem ua {t:Ty} (ht:tyS S t) (h5:t.kind=5) (hb:bdV S t.n=none):(sub ρ t).n=t.n∧∀ s,fg s (sub ρ t)=(fg s t).map (sub ρ):=by
 have ho:=ht.okG rv.sol
 by_cases hn:t.n=0
 · refine ⟨by rw [dg h5,if_pos hn,hn],fun s=>by rw [cA ht.1 h5 ho,if_pos hn]⟩
 · obtain ⟨x,h1,h2,_⟩:=ht.2 _ (dr h5 hn)
   have e:=rv.free _ x h1 (bO hb h1)
   have e:ρ t.n=idv true t.n:=by rw [e,h2]
   refine ⟨by rw [dg h5,if_neg hn,e];rfl,fun s=>?_⟩
   rw [cA ht.1 h5 ho,if_neg hn,e]
   rfl
theorem zR {t:Ty} (ht:tyS S t) (h5:t.kind=5) {s:List UInt8} {x:Ty} (h:fg s t=some x):fg s (sub ρ t)=some (sub ρ x):=oW ht.1 h5 (ht.okG rv.sol) (tyS.dj rv.sol ht.1 ht.2) h
theorem iM {U:UF} (hU:∀ a b ok S',U S a b=some (ok,S')→tyS S a→tyS S b→sub ρ a=sub ρ b→ok=true∧S'=S) {b:Ty} (vb:tyS S b) (kb:b.kind=5) :
 ∀ (ns:List (List UInt8)) (ks:List Ty) (D:Dn) (ag ok:Bool) (S1:St) (D1:Dn) (ag1:Bool),ck U b ns ks S D ag=some (ok,S1,D1,ag1)→ns.length=ks.length→(∀ k∈ks,tyS S k)→(∀ p∈ns.zip ks,fg p.1 (sub ρ b)=some (sub ρ p.2))→ok=true∧S1=S
 | [],ks,D,ag,ok,S1,D1,ag1,h,_,_,_=>by cases ks <;> (simp only [ck,Option.some.injEq,Prod.mk.injEq] at h;exact ⟨h.1.symm,h.2.1.symm⟩)
 | s::ns,[],D,ag,ok,S1,D1,ag1,h,hl,_,_=>by simp at hl
 | s::ns,k::ks,D,ag,ok,S1,D1,ag1,h,hl,hk,hf=>by
  have hl':ns.length=ks.length:=by simpa using hl
  have hk':∀ k∈ks,tyS S k:=fun x hx=>hk x (List.mem_cons_of_mem _ hx)
  have hf':∀ p∈ns.zip ks,fg p.1 (sub ρ b)=some (sub ρ p.2):=fun p hp=>hf p (by rw [List.zip_cons_cons];exact List.mem_cons_of_mem _ hp)
  rw [ck] at h
  split at h
  · exact iM hU vb kb ns ks _ _ _ _ _ _ h hl' hk' hf'
  · rename_i hc
    have hx:¬ aQ b.names s<0:=fun h=>hc (.inl h)
    obtain ⟨s1,s2,s3,s4,s5⟩:=vb.1.sorted kb
    have hg:=uT (az s1) s2 hx
    have e1:=zR hi rv vb kb hg
    have e2:=hf (s,k) (by rw [List.zip_cons_cons];exact List.mem_cons_self)
    have e3:sub ρ k=sub ρ (b.kids.getD (aQ b.names s).toNat Ty.zero):=Option.some.inj (e2.symm.trans e1)
    have hkb:=vb.kid (gF hg)
    split at h
    · rename_i S2 h2
      obtain ⟨_,e⟩:=hU _ _ _ _ h2 (hk k List.mem_cons_self) hkb e3
      rw [e] at h
      exact iM hU vb kb ns ks _ _ _ _ _ _ h hl' hk' hf'
    · rename_i S2 h2
      exact absurd (hU _ _ _ _ h2 (hk k List.mem_cons_self) hkb e3).1 dq
    · cases h
theorem m9 {U:UF} (hU:∀ a b ok S',U S a b=some (ok,S')→tyS S a→tyS S b→sub ρ a=sub ρ b→ok=true∧S'=S) {f:Nat}:∀ (g:Nat) (a b:Ty) (D:Dn) (ok:Bool) (S1:St) (a1 b1:Ty),dR f U g S a b D=some (ok,S1,a1,b1)→tyS S a→tyS S b→a.kind=5→b.kind=5→sub ρ a=sub ρ b →
 ok=true∧S1=S∧tyS S a1∧tyS S b1∧a1.kind=5∧b1.kind=5∧bdV S a1.n=none∧bdV S b1.n=none∧sub ρ a1=sub ρ b1
 | 0,a,b,D,ok,S1,a1,b1,h,_,_,_,_,_=>by simp [dR] at h
 | g+1,a,b,D,ok,S1,a1,b1,h,ha,hb,ka,kb,he=>by
  rw [dR] at h
  split at h <;> try (cases h;done)
  rename_i a' ha'
  split at h <;> try (cases h;done)
  rename_i b' hb'
  split at h <;> try (cases h;done)
  obtain ⟨va,na,ea⟩:=dx hi.1 ha' ha
  obtain ⟨vb,nb,eb⟩:=dx hi.1 hb' hb
  have he':sub ρ a'=sub ρ b':=by rw [ea ρ rv.sol,eb ρ rv.sol,he]
  have k1:a'.kind=5:=by
   have h1:=congrArg Ty.kind (ea ρ rv.sol)
   rw [a8 (t:=a) (by rw [ka];decide),ka] at h1
   by_cases h6:a'.kind=6
   · obtain ⟨x,x1,x2⟩:=va.var6 h6
     rw [ow h6,rv.free _ x x1 (bO (na (.inr h6)) x1),x2] at h1
     simp [idv] at h1
   · rwa [a8 h6] at h1
  have k2:b'.kind=5:=by
   have h1:=congrArg Ty.kind (eb ρ rv.sol)
   rw [a8 (t:=b) (by rw [kb];decide),kb] at h1
   by_cases h6:b'.kind=6
   · obtain ⟨x,x1,x2⟩:=vb.var6 h6
     rw [ow h6,rv.free _ x x1 (bO (nb (.inr h6)) x1),x2] at h1
     simp [idv] at h1
   · rwa [a8 h6] at h1
  obtain ⟨s1,s2,s3,s4,s5⟩:=va.1.sorted k1
  have hz:∀ p∈a'.names.zip a'.kids,fg p.1 (sub ρ b')=some (sub ρ p.2):=fun p hp=>by
   rw [← he']
   exact zR hi rv va k1 (iv (l:=a'.names.zip a'.kids) (by rw [cG s2];exact az s1) hp)
  have hk:∀ k∈a'.kids,tyS S k:=fun k hk=>va.kid hk
  split at h <;> try (cases h;done)
  · rename_i S2 D2 h2
    obtain ⟨_,e⟩:=iM hi rv hU vb k2 _ _ _ _ _ _ _ _ h2 s2 hk hz
    rw [e] at h
    exact m9 hU g a' b' _ _ _ _ _ h va vb k1 k2 he'
  · rename_i S2 D2 h2
    obtain ⟨_,e⟩:=iM hi rv hU vb k2 _ _ _ _ _ _ _ _ h2 s2 hk hz
    rw [e] at h
    simp only [Option.some.injEq,Prod.mk.injEq] at h
    obtain ⟨rfl,rfl,rfl,rfl⟩:=h
    exact ⟨rfl,rfl,va,vb,k1,k2,na (.inl k1),nb (.inl k2),he'⟩
  · rename_i S2 D2 ag2 h2
    exact absurd (iM hi rv hU vb k2 _ _ _ _ _ _ _ _ h2 s2 hk hz).1 dq
theorem sr {a b:Ty} (va:tyS S a) (vb:tyS S b) (ka:a.kind=5) (kb:b.kind=5) (na:bdV S a.n=none) (nb:bdV S b.n=none) (he:sub ρ a=sub ρ b) (n:Int):(onT a b n).names.length=0:=by
 rcases Nat.eq_zero_or_pos (onT a b n).names.length with h|h
 · exact h
 · obtain ⟨s1,s2,_⟩:=va.1.sorted ka
   obtain ⟨t1,t2,_⟩:=vb.1.sorted kb
   obtain ⟨s,h1,h2⟩:=iD (az s1) s2 h
   obtain ⟨x,hx⟩:=du s2 h1
   have e1:=(ua hi rv va ka na).2 s
   have e2:=(ua hi rv vb kb nb).2 s
   rw [he,e2,(bZ t2).2 h2,hx] at e1
   cases e1
theorem Ds {f:Nat} {a b:Ty} {ok:Bool} {S':St} (h:fu f S a b=some (ok,S')) (va:tyS S a) (vb:tyS S b) (ka:a.kind=5) (kb:b.kind=5) (na:bdV S a.n=none) (nb:bdV S b.n=none) (he:sub ρ a=sub ρ b):ok=true∧S'=S:=by
 unfold fu at h
 split at h <;> try (cases h;done)
 have e:a.n=b.n:=by rw [← (ua hi rv va ka na).1,← (ua hi rv vb kb nb).1,he]
 rw [if_pos e,sr hi rv va vb ka kb na nb he,sr hi rv vb va kb ka nb na he.symm] at h
 simp only [Option.some.injEq,Prod.mk.injEq] at h
 exact ⟨h.1.symm,h.2.symm⟩
theorem wL:∀ f a b ok S',bq f S a b=some (ok,S')→tyS S a→tyS S b→sub ρ a=sub ρ b→ok=true∧S'=S
 | 0,a,b,ok,S',h,_,_,_=>by simp [bq] at h
 | f+1,a,b,ok,S',h,ha,hb,he=>by
  have ih:=wL f
  rw [bq] at h
  split at h <;> try (cases h;done)
  rename_i a' ha'
  split at h <;> try (cases h;done)
  rename_i b' hb'
  split at h <;> try (cases h;done)
  obtain ⟨va,na,ea⟩:=dx hi.1 ha' ha
  obtain ⟨vb,nb,eb⟩:=dx hi.1 hb' hb
  have he':sub ρ a'=sub ρ b':=by rw [ea ρ rv.sol,eb ρ rv.sol,he]
  have v6:∀ t,tyS S t→t.kind=6→bdV S t.n=none→sub ρ t=.mk 6 [] t.n [] []:=fun t vt h6 hb=>by
   obtain ⟨x,x1,x2⟩:=vt.var6 h6
   rw [ow h6,rv.free _ x x1 (bO hb x1),x2];rfl
  split at h
  · simp only [Option.some.injEq,Prod.mk.injEq] at h;exact ⟨h.1.symm,h.2.symm⟩
  rename_i hc
  split at h
  · rename_i h6
    exfalso
    rw [v6 a' va h6 (na (.inr h6))] at he'
    by_cases k6:b'.kind=6
    · rw [v6 b' vb k6 (nb (.inr k6))] at he'
      simp only [Ty.mk.injEq] at he'
      exact hc ⟨h6,k6,he'.2.2.1⟩
    · have:=congrArg Ty.kind he'
      rw [a8 k6] at this
      exact k6 this.symm
  rename_i h6
  split at h
  · rename_i k6
    exfalso
    rw [v6 b' vb k6 (nb (.inr k6))] at he'
    have:=congrArg Ty.kind he'
    rw [a8 h6] at this
    exact h6 this
  rename_i k6
  have e1:=congrArg Ty.kind he'
  have e2:=congrArg Ty.name he'
  rw [a8 h6,a8 k6] at e1
  rw [va.1.name6 h6,vb.1.name6 k6] at e2
  rw [if_neg (fun h=>h.elim (fun h=>h e1) (fun h=>h e2))] at h
  split at h
  · rename_i h5
    have k5:b'.kind=5:=e1▸h5
    unfold gi at h
    split at h <;> try (cases h;done)
    · rename_i S1 a1 b1 h1
      obtain ⟨_,q2,q3,q4,q5,q6,q7,q8,q9⟩:=m9 hi rv ih _ _ _ _ _ _ _ _ h1 va vb h5 k5 he'
      subst q2
      exact Ds hi rv h q3 q4 q5 q6 q7 q8 q9
    · rename_i S1 a1 b1 h1
      exact absurd (m9 hi rv ih _ _ _ _ _ _ _ _ h1 va vb h5 k5 he').1 dq
  split at h
  · rename_i h4
    split at h <;> try (cases h;done)
    have list1:∀ t:Ty,Gt t→t.kind=4→t=.mk 4 [] 0 [] [t.kids.getD 0 Ty.zero]∧t.kids.getD 0 Ty.zero∈t.kids:=by
     intro t ht h4
     cases ht with
     | leaf k x a b c=>exact absurd h4 a
     | list t _=>exact ⟨rfl,by simp⟩
     | var n _=>simp at h4
     | rcd n ns ks _ _ _ _=>simp at h4
    obtain ⟨l1,l2⟩:=list1 a' va.1 h4
    obtain ⟨m1,m2⟩:=list1 b' vb.1 (e1▸h4)
    have he2:=he'
    rw [l1,m1,bu ρ _ _ _ dq dq,bu ρ _ _ _ dq dq] at he2
    simp only [List.map_cons,List.map_nil,Ty.mk.injEq,List.cons.injEq,and_true,true_and] at he2
    exact ih _ _ _ _ h (va.kid l2) (vb.kid m2) he2
  · simp only [Option.some.injEq,Prod.mk.injEq] at h;exact ⟨h.1.symm,h.2.symm⟩
end
theorem tyN.val {S:St} {t:Ty} (h:tyN S t):cO t=true:=by have:=h.has;unfold cD at this;rw [Bool.and_eq_true] at this;exact this.1
theorem DG {S S':St} {σ:Int→Ty} {x p:Ty} (hx:tyN S x) (hp:tyN S' p) (hs:Sol S σ) (h:sub σ x=p):rl x p=true:=by
 have:=(DM hx.gt (hx.s.okG hs) (tyS.dj hs hx.gt hx.s.2) [] (fun _ _ h=>by simp [am] at h)).1
 rw [h] at this
 unfold rl
 rw [hx.val,hp.val,this];rfl
theorem yc (l m n:List Int) (hl:jq l) (hm:jq m) (hn:jq n):ay cx 6 [.imm (l.map (.int .i64)),.imm (m.map (.int .i64)),.imm (n.map (.int .i64))] (.bool true):=by
 have hc1:Cl 2 (aX l 2 0):=lB l 2 0
 have hc2:Cl 2 (aX m 2 0):=lB m 2 0
 have hT1:ay cx 13 [.imm (l.map (.int .i64)),.int .i64 0,.int .i64 2] (aX l 2 0).v:=pF (rM l 0 2 hl dq dq)
 have hT2:ay cx 13 [.imm (m.map (.int .i64)),.int .i64 0,.int .i64 2] (aX m 2 0).v:=pF (rM m 0 2 hm dq dq)
 generalize aX l 2 0=t1 at hc1 hT1
 generalize aX m 2 0=t2 at hc2 hT2
 have hlim:szB 2<lim:=by decide
 have z1:t1.sz≤szB 2:=(hc1.ft (h':=fun _=>0)).sz
 have z2:t2.sz≤szB 2:=(hc2.ft (h':=fun _=>0)).sz
 have h3:szB 2<3000:=by decide
 obtain ⟨a,A1,h1,σ1,e1,B1⟩:=mi (l:=n) (lv:=0) t1.sz 2 t1 [] 0 (fun _=>0) (fun n=>idv false n) hlim hc1 (Nat.le_refl _) Inv.nil (Sol.nil _) (StF.nil _) dP.nil (by simp;omega)
 have l1:=B1.len
 simp only [List.length_nil] at l1
 obtain ⟨b,A,h2,σ2,e2,B2⟩:=mi (l:=n) (lv:=0) t2.sz 2 t2 A1 3 h1 σ1 hlim hc2 (Nat.le_refl _) B1.inv B1.sol B1.stf B1.sm oq
 have l2:=B2.len
 have na:tyN A a:=B1.ty.up B2.fix
 have nb:tyN A b:=B2.ty
 have fa:Ft h2 2 a:=B1.ft.in B2.old B1.ty.in
 have fb:Ft h2 2 b:=B2.ft
 have pA:phi A<lim:=by have:=Hp A;have:lim=100000000:=rfl;omega
 have noA:noN A:=B2.noN (B1.noN noN.nil)
 have sA:=B2.sm
 have iA:=B2.inv
 have sfA:=B2.stf
 obtain ⟨wfA,ρ,rk,rv,hrk⟩:=id iA
 obtain ⟨x,xe,fx⟩:=gU wfA sfA hrk 2 hlim a fa na.s
 obtain ⟨y,ye,fy⟩:=gU wfA sfA hrk 2 hlim b fb nb.s
 obtain ⟨gx,rx⟩:=xe.some
 obtain ⟨gy,ry⟩:=ye.some
 obtain ⟨tx,_,hxs,_⟩:=jV wfA gx a x rx na.s
 obtain ⟨ty',_,hys,_⟩:=jV wfA gy b y ry nb.s
 have nx:tyN A x:=yL tx fx noA
 have ny:tyN A y:=yL ty' fy noA
 have qa:=fa.sz
 have qb:=fb.sz
 have qx:=fx.sz
 have qy:=fy.sz
 obtain ⟨ok,S1,hS,R3⟩:=kj 2 hlim A h2 a b pA iA sfA na.s nb.s fa fb
 obtain ⟨ok',U1,hU,R4⟩:=kj 2 hlim A h2 b a pA iA sfA nb.s na.s fb fa
 obtain ⟨f3,e3⟩:=R3.ev.some
 obtain ⟨f4,e4⟩:=R4.ev.some
 have T3:=ip f3 A a b ok S1 e3 iA na.s nb.s
 have T4:=ip f4 A b a ok' U1 e4 iA nb.s na.s
 cases ok with
 | false =>
  have hok':ok'=false:=by
   cases hk:ok' with
   | false=>rfl
   | true =>
    obtain ⟨_,ρ2,_,rv2,_⟩:=T4.inv
    have:=(T3.compl ρ2 (T4.back ρ2 rv2.sol) (T4.sound hk ρ2 rv2.sol).symm).1
    exact absurd this dq
  subst hok'
  exact Ci l m n t1 t2 a b x y A1 A S1 U1 _ _ gx gy f3 f4 hl hm hn hT1 hT2 oq oq oq oq oq oq e1 e2 sA na.has nb.has rx ry e3 e4
 | true =>
  obtain ⟨wfS,ρ1,rk1,rv1,hrk1⟩:=id T3.inv
  have hab:sub ρ1 a=sub ρ1 b:=T3.sound rfl ρ1 rv1.sol
  have s1A:Sol A ρ1:=T3.back ρ1 rv1.sol
  obtain ⟨hok',τ,sτ,gτ⟩:=T4.compl ρ1 s1A hab.symm
  subst hok'
  obtain ⟨wfU,ρ2,rk2,rv2,hrk2⟩:=id T4.inv
  have hba:sub ρ2 b=sub ρ2 a:=T4.sound rfl ρ2 rv2.sol
  obtain ⟨_,σ,sσ,gσ⟩:=T3.compl ρ2 (T4.back ρ2 rv2.sol) hba.symm
  have naS:tyN S1 a:=na.ext T3.ext
  have nbS:tyN S1 b:=nb.ext T3.ext
  have naU:tyN U1 a:=na.ext T4.ext
  have nbU:tyN U1 b:=nb.ext T4.ext
  obtain ⟨p,pe,fp⟩:=gU wfS R3.stf hrk1 2 hlim a (fa.in R3.old na.in) naS.s
  obtain ⟨q,qe,fq⟩:=gU wfS R3.stf hrk1 2 hlim b (fb.in R3.old nb.in) nbS.s
  obtain ⟨r,re,fr⟩:=gU wfU R4.stf hrk2 2 hlim a (fa.in R4.old na.in) naU.s
  obtain ⟨r',re',fr'⟩:=gU wfU R4.stf hrk2 2 hlim b (fb.in R4.old nb.in) nbU.s
  obtain ⟨gp,rp⟩:=pe.some
  obtain ⟨gq,rq⟩:=qe.some
  obtain ⟨gr,rr⟩:=re.some
  obtain ⟨gs,rs⟩:=re'.some
  have ep:=vi wfS rv1 rp naS.s
  have eq:=vi wfS rv1 rq nbS.s
  have er:=vi wfU rv2 rr naU.s
  have er':=vi wfU rv2 rs nbU.s
  have hpq:q=p:=by rw [ep,eq,hab]
  have hrr:r'=r:=by rw [er,er',hba]
  subst hpq hrr
  obtain ⟨tp,_,hps,_⟩:=jV wfS gp a q rp naS.s
  obtain ⟨tr,_,hrs,_⟩:=jV wfU gr a r' rr naU.s
  have m1:sub σ q=r':=by rw [hps σ sσ,er,o5 na gσ]
  have m2:sub τ r'=q:=by rw [hrs τ sτ,ep,o5 na gτ]
  have hcan:lR [q,q]=lR [r',r']:=(Gk tp.1 tr.1 (tp.okG sσ) (tr.okG sτ) (tyS.dj sσ tp.1 tp.2) (tyS.dj sτ tr.1 tr.2) m1 m2 2).symm
  have noS:noN S1:=Fe e3 noA
  have np:tyN S1 q:=yL tp fp noS
  have mx:rl x q=true:=DG nx np s1A (by rw [hxs ρ1 s1A,ep])
  have my:rl y q=true:=DG ny np s1A (by rw [hys ρ1 s1A,eq])
  obtain ⟨ok5,S5,h5,R5⟩:=kj 2 hlim S1 hS a b (Nat.lt_of_le_of_lt (R3.ph rfl) pA) T3.inv R3.stf naS.s nbS.s (fa.in R3.old na.in) (fb.in R3.old nb.in)
  obtain ⟨f5,e5⟩:=R5.ev.some
  obtain ⟨k1,k2⟩:=wL T3.inv rv1 f5 a b ok5 S5 e5 naS.s nbS.s hab
  rw [k1,k2] at e5
  have qp:=fp.sz
  have qr:=fr.sz
  have sS:=DD e3 sA
  have sU:=DD e4 sA
  exact zA l m n t1 t2 a b x y q r' A1 A S1 U1 _ _ gx gy f3 f4 f5 gp gq gr gs hl hm hn hT1 hT2 oq oq oq oq oq oq e1 e2 sA na.has nb.has rx ry oq oq e3 e4 sS sU naS.has nbS.has naU.has nbU.has rp rq rr rs hcan mx my e5
end Go.Proofs.YtdikgijfekfaoaaGreatDoor
