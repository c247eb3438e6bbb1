/- The states of From, as functions of the workspace. No condition. -/
import Derived.Test.YtcpklndelobigaaGreatDoorM8
set_option linter.all false
namespace Go.Proofs.YtcpklndelobigaaGreatDoor
open Go.Proofs.YtcpklndelobigaaGreatDoor.Abs
set_option maxRecDepth 20000
set_option maxHeartbeats 4000000
structure OY (Z:List Sm) (O:List UInt8->Bool) (U:Ty->Bool) (Y:Ex->Int) (d:Dc):Prop where
 ok:d.ok
 hlow:∀ i,i<d.tab.cols.length->af cx 70 [.int .i64 2,.str (d.tab.cols.getD i Co.zero).name] (.bool (O (d.tab.cols.getD i Co.zero).name))
 hsto:∀ i,i<d.tab.cols.length->af cx 136 [.imm (Z.map Sm.v),(d.tab.cols.getD i Co.zero).type.v] (.bool (U (d.tab.cols.getD i Co.zero).type))
 hln:af cx 70 [.int .i64 2,.str d.name] (.bool (O d.name))
 hchk:af cx 77 [d.tab.chk.v] (.int .i64 (Y d.tab.chk))
 hst:af cx 81 [d.tab.chk.v] d.tab.chk.v
structure kH (Z:List Sm) (O:List UInt8->Bool) (U:Ty->Bool) (Y:Ex->Int) (V:List Md):Prop where
 n:V.length<=2
 m:∀ i,(V.getD i Md.zero).decls.length<=40
 d:∀ i,i<V.length->∀ k,k<(V.getD i Md.zero).decls.length->OY Z O U Y ((V.getD i Md.zero).decls.getD k Dc.zero)
section
variable (O:List UInt8->Bool) (U:Ty->Bool) (Y:Ex->Int) (V:List Md)
def tmI (i:Nat):Tm_:=mF tmf V i []
def tmD (i k:Nat):Tm_:=dF tmf (V.getD i Md.zero).name (V.getD i Md.zero).decls k (tmI V i)
def tmA:Tm_:=tmI V V.length
def stI (i:Nat):SP:=mF (dP O U (fun e=>Y e==0) (fun n=>aC n (tmA V))) V i ⟨[],[],([],[])⟩
def stD (i k:Nat):SP:=dF (dP O U (fun e=>Y e==0) (fun n=>aC n (tmA V))) (V.getD i Md.zero).name (V.getD i Md.zero).decls k (stI O U Y V i)
def srI (i:Nat):SR:=mF (dR O U (fun e=>Y e==0) (fun n=>aC n (tmA V))) V i ⟨[],[],[]⟩
def srD (i k:Nat):SR:=dF (dR O U (fun e=>Y e==0) (fun n=>aC n (tmA V))) (V.getD i Md.zero).name (V.getD i Md.zero).decls k (srI O U Y V i)
end
section
variable {O:List UInt8->Bool} {U:Ty->Bool} {Y:Ex->Int} {V:List Md} {Z:List Sm}
theorem GW (i:Nat):Do (stI O U Y V i) (srI O U Y V i):=y6 (fun doc d s s' h=>xM O U _ _ doc d s s' h) V EI i
theorem HO (i k:Nat):Do (stD O U Y V i k) (srD O U Y V i k):=vQ (fun doc d s s' h=>xM O U _ _ doc d s s' h) _ _ (GW i) k
abbrev dcl (V:List Md) (i k:Nat):Dc:=(V.getD i Md.zero).decls.getD k Dc.zero
theorem AC (i k:Nat):tmD V i (k+1)=tmf (V.getD i Md.zero).name (dcl V i k) (tmD V i k):=rfl
theorem xh (i k:Nat):stD O U Y V i (k+1)=dP O U (fun e=>Y e==0) (fun n=>aC n (tmA V)) (V.getD i Md.zero).name (dcl V i k) (stD O U Y V i k):=rfl
theorem NQ {i k:Nat} (h:aC ((V.getD i Md.zero).decls.getD k Dc.zero).name (tmD V i k)=none) (h2:((V.getD i Md.zero).decls.getD k Dc.zero).kind=1):tmD V i (k+1)=bM ((V.getD i Md.zero).decls.getD k Dc.zero).name ((V.getD i Md.zero).decls.getD k Dc.zero).tab (tmD V i k):=by
 rw [AC];unfold tmf;rw [if_pos ⟨h,h2⟩]
theorem Pd {i k:Nat} {x:Tb} (h:aC ((V.getD i Md.zero).decls.getD k Dc.zero).name (tmD V i k)=some x):tmD V i (k+1)=tmD V i k:=by
 rw [AC];unfold tmf;rw [if_neg (fun q=>by rw [h] at q;exact absurd q.1 zq)]
theorem NN {i k:Nat} (h2:¬ ((V.getD i Md.zero).decls.getD k Dc.zero).kind=1):tmD V i (k+1)=tmD V i k:=by
 rw [AC];unfold tmf;rw [if_neg (fun q=>h2 q.2)]
theorem It {i k:Nat} (h:k=(V.getD i Md.zero).decls.length):tmD V i k=tmI V (i+1):=by rw [h];rfl
theorem BA {i k:Nat} (h:k=(V.getD i Md.zero).decls.length):stD O U Y V i k=stI O U Y V (i+1):=by rw [h];rfl
theorem Ow {i k:Nat} (h:¬ (dcl V i k).kind=1):stD O U Y V i (k+1)=stD O U Y V i k:=by
 rw [xh];unfold dP;rw [if_neg (fun q=>h q.1)]
theorem N6 {i k:Nat} (h:aO (stD O U Y V i k).seen (dcl V i k).name=true):stD O U Y V i (k+1)=stD O U Y V i k:=by
 rw [xh];unfold dP;rw [if_neg (fun q=>by rw [h] at q;exact absurd q.2 zq)]
theorem PN {i k:Nat} (h:(dcl V i k).kind=1) (h2:¬ aO (stD O U Y V i k).seen (dcl V i k).name=true) (h3:(((bM (dcl V i k).name true (stD O U Y V i k).seen).length:Nat):Int) > 8) :
 stD O U Y V i (k+1)=⟨bM (dcl V i k).name true (stD O U Y V i k).seen,(stD O U Y V i k).out,bH (V.getD i Md.zero).name (dcl V i k) [] (stD O U Y V i k).bp⟩:=by
 rw [xh];unfold dP;rw [if_pos ⟨h,Bool.eq_false_iff.2 h2⟩,if_pos oq]
theorem Pn {i k:Nat} (h:(dcl V i k).kind=1) (h2:¬ aO (stD O U Y V i k).seen (dcl V i k).name=true) (h3:¬ (((bM (dcl V i k).name true (stD O U Y V i k).seen).length:Nat):Int) > 8) :
 stD O U Y V i (k+1)=⟨bM (dcl V i k).name true (stD O U Y V i k).seen,(stD O U Y V i k).out++[(dcl V i k).tab.named (dcl V i k).name],gl O U (fun e=>Y e==0) (fun n=>aC n (tmA V)) (V.getD i Md.zero).name (dcl V i k) (stD O U Y V i k).bp⟩:=by
 rw [xh];unfold dP;rw [if_pos ⟨h,Bool.eq_false_iff.2 h2⟩,if_neg oq]
theorem EL {t:Tb} (h:t.ok) (n:List UInt8):(t.named n).ok:=⟨h.c,h.k,h.r,h.z⟩
theorem LM {O:List UInt8->Bool} {U:Ty->Bool} {Y:Ex->Bool} {fst:List UInt8->Option Tb} {doc:List UInt8} {d:Dc} (hd:d.tab.ok) (s:SP):(dP O U Y fst doc d s).bp.2.length<=s.bp.2.length+302:=by
 have h1:=hd.c;have h2:=hd.k;have h3:=hd.r;have ht:=EG (O:=O) (U:=U) (Y:=Y) (fst:=fst) (doc:=doc) (d:=d) (s:=s.bp);unfold dP;split
 . split
   . simp [bH]
   . show (gl O U Y fst doc d s.bp).2.length<=_;omega
 . omega
theorem vM (hf:kH Z O U Y V) {i:Nat} (hi:i<V.length):∀ k,k<=(V.getD i Md.zero).decls.length->(stD O U Y V i k).bp.2.length<=(stI O U Y V i).bp.2.length+302 * k
 | 0,_=>Nat.le_refl _
 | k+1,h=>by
  have h1:=vM hf hi k oq;have h2:=LM (d:=dcl V i k) (O:=O) (U:=U) (Y:=fun e=>Y e==0) (fst:=fun n=>aC n (tmA V)) (doc:=(V.getD i Md.zero).name) (hf.d i hi k oq).ok.t (stD O U Y V i k);rw [xh];omega
theorem u5 (hf:kH Z O U Y V):∀ i,i<=V.length->(stI O U Y V i).bp.2.length<=12080 * i
 | 0,_=>Nat.le_refl _
 | i+1,h=>by
  have h1:=u5 hf i oq;have h2:=vM hf (by omega:i<V.length) _ (Nat.le_refl _);have h3:=hf.m i;show (stD O U Y V i (V.getD i Md.zero).decls.length).bp.2.length<=_;omega
theorem yc (hf:kH Z O U Y V) {i k:Nat} (hi:i<V.length) (hk:k<=(V.getD i Md.zero).decls.length):(stD O U Y V i k).bp.2.length<50000:=by
 have h1:=vM hf hi k hk;have h2:=u5 hf i oq;have h3:=hf.m i;have h4:=hf.n;omega
theorem Nc {O:List UInt8->Bool} {U:Ty->Bool} {Y:Ex->Bool} {fst:List UInt8->Option Tb} {doc:List UInt8} {d:Dc} (hd:d.tab.ok) {s:SP} (h:∀ t∈s.out,t.ok):∀ t∈(dP O U Y fst doc d s).out,t.ok:=by
 unfold dP;split
 . split
   . exact h
   . intro t ht;rcases List.mem_append.1 ht with q|q
     . exact h t q
     . rw [List.mem_singleton] at q;subst q;exact EL hd _
 . exact h
theorem E4 (hf:kH Z O U Y V) {i:Nat} (hi:i<V.length) (h:∀ t∈(stI O U Y V i).out,t.ok):∀ k,k<=(V.getD i Md.zero).decls.length->∀ t∈(stD O U Y V i k).out,t.ok
 | 0,_=>h
 | k+1,hk=>Nc (hf.d i hi k oq).ok.t (E4 hf hi h k oq)
theorem Ai (hf:kH Z O U Y V):∀ i,i<=V.length->∀ t∈(stI O U Y V i).out,t.ok
 | 0,_=>fun t ht=>by cases ht
 | i+1,h=>E4 hf oq (Ai hf i oq) _ (Nat.le_refl _)
theorem H6 {l:Tm_} {n:List UInt8} {v:Tb} (hv:v.ok) (h:∀ k x,aC k l=some x->x.ok):∀ k x,aC k (bM n v l)=some x->x.ok:=by
 intro k x hx;rw [ly] at hx;split at hx
 . cases hx;exact hv
 . exact h k x hx
theorem Gg (hf:kH Z O U Y V) {i:Nat} (hi:i<V.length) (h:∀ n x,aC n (tmI V i)=some x->x.ok):∀ k,k<=(V.getD i Md.zero).decls.length->∀ n x,aC n (tmD V i k)=some x->x.ok
 | 0,_=>h
 | k+1,hk=>by
  have ih:=Gg hf hi h k oq;rw [AC];unfold tmf;split
  . exact H6 (hf.d i hi k oq).ok.t ih
  . exact ih
theorem Eo (hf:kH Z O U Y V):∀ i,i<=V.length->∀ n x,aC n (tmI V i)=some x->x.ok
 | 0,_=>fun n x h=>by cases h
 | i+1,h=>Gg hf oq (Eo hf i oq) _ (Nat.le_refl _)
theorem Ma (hf:kH Z O U Y V):∀ n x,aC n (tmA V)=some x->x.ok:=Eo hf _ (Nat.le_refl _)
end
theorem nt (B:List (List UInt8×Bool)) (l:List Tb):∀ k,(itP B k l).Sublist l
 | 0=>List.Sublist.refl _
 | k+1=>List.filter_sublist.trans (nt B l k)
theorem p7 {B:List (List UInt8×Bool)} {l:List Tb} {k:Nat} (h:eG B (itP B k l)=itP B k l):∀ j,itP B (k+j) l=itP B k l
 | 0=>rfl
 | j+1=>by rw [<- Nat.add_assoc,itP,p7 h j,h]
theorem Bg (B:List (List UInt8×Bool)) (l:List Tb):∀ k,(∀ j,j<k->¬ eG B (itP B j l)=itP B j l)->(itP B k l).length+k<=l.length
 | 0,_=>Nat.le_refl _
 | k+1,h=>by
  have h1:=Bg B l k (fun j hj=>h j oq);have h2:(eG B (itP B k l)).length<=(itP B k l).length:=(List.filter_sublist).length_le;have h3:¬ (itP B k l).length<=(eG B (itP B k l)).length:=fun q=>h k oq (jC List.filter_sublist q)
  show (eG B (itP B k l)).length+(k+1)<=_;omega
theorem JZ {B:List (List UInt8×Bool)} {l:List Tb} (hl:l.length<=8):eG B (itP B 9 l)=itP B 9 l:=by
 apply Classical.byContradiction;intro hc
 have hall:∀ j,j<9->¬ eG B (itP B j l)=itP B j l:=fun j hj q=>hc (by
  have e:=p7 q (9 - j);rw [show j+(9 - j)=9 by omega] at e;rw [e,q])
 have:=Bg B l 9 hall;omega
theorem HE {B:List (List UInt8×Bool)} {l:List Tb} (hl:l.length<=8) {k:Nat} (h:(itP B k l).length<=(eG B (itP B k l)).length):itP B k l=itP B 9 l:=by
 have hk:eG B (itP B k l)=itP B k l:=jC List.filter_sublist h;rcases Nat.le_total k 9 with q|q
 . obtain ⟨c,hc⟩:=Nat.le.dest q;rw [<- hc,p7 hk]
 . obtain ⟨c,rfl⟩:=Nat.le.dest q;exact p7 (JZ hl) c
theorem vV {l:List Tb} {p:Tb->Bool} (h:l.any p=true):(l.filter (fun t=>!p t)).length<l.length:=by
 rw [List.any_eq_true] at h;obtain ⟨x,h1,h2⟩:=h;have h3:(l.filter (fun t=>!p t)).length<=l.length:=(List.filter_sublist).length_le;rcases Nat.lt_or_eq_of_le h3 with q|q
 . exact q
 . have:=jC (List.filter_sublist (p:=fun t=>!p t)) (Nat.le_of_eq q.symm);rw [List.filter_eq_self] at this;have:=this x h1;rw [h2] at this;cases this
theorem Fk {l:List Tb} {p:Tb->Bool} (h:¬ l.any p=true):l.filter (fun t=>!p t)=l:=by
 rw [List.filter_eq_self];intro x hx;cases e:p x with
 | false=>rfl
 | true=>exact absurd (List.any_eq_true.2 ⟨x,hx,e⟩) h
noncomputable def c24:Code:=aF Tryz.f24
end Go.Proofs.YtcpklndelobigaaGreatDoor
