/- The states of From, as functions of the workspace. No condition. -/
import Derived.Test.YtcpklndelobigaaGreatDoorM8
set_option linter.all false
namespace Go.Proofs.YtcpklndelobigaaGreatDoor
open Go.Proofs.YtcpklndelobigaaGreatDoor.Abs
set_option maxRecDepth 20000
set_option maxHeartbeats 4000000
structure BK (sums:List Sm) (low:List UInt8→Bool) (sto:Ty→Bool) (chk:Ex→Int) (d:Dc):Prop where
 ok:d.ok
 hlow:∀ i,i<d.tab.cols.length→ao cx 70 [.int .i64 2,.str (d.tab.cols.getD i Co.zero).name] (.bool (low (d.tab.cols.getD i Co.zero).name))
 hsto:∀ i,i<d.tab.cols.length→ao cx 136 [.imm (sums.map Sm.v),(d.tab.cols.getD i Co.zero).type.v] (.bool (sto (d.tab.cols.getD i Co.zero).type))
 hln:ao cx 70 [.int .i64 2,.str d.name] (.bool (low d.name))
 hchk:ao cx 77 [d.tab.chk.v] (.int .i64 (chk d.tab.chk))
 hst:ao cx 81 [d.tab.chk.v] d.tab.chk.v
structure gI (sums:List Sm) (low:List UInt8→Bool) (sto:Ty→Bool) (chk:Ex→Int) (ms:List Md):Prop where
 n:ms.length≤2
 m:∀ i,(ms.getD i Md.zero).decls.length≤40
 d:∀ i,i<ms.length→∀ k,k<(ms.getD i Md.zero).decls.length→BK sums low sto chk ((ms.getD i Md.zero).decls.getD k Dc.zero)
section
variable (low:List UInt8→Bool) (sto:Ty→Bool) (chk:Ex→Int) (ms:List Md)
def tmI (i:Nat):Tm_:=mF tmf ms i []
def tmD (i k:Nat):Tm_:=dF tmf (ms.getD i Md.zero).name (ms.getD i Md.zero).decls k (tmI ms i)
def tmA:Tm_:=tmI ms ms.length
def stI (i:Nat):SP:=mF (dP low sto (fun e=>chk e==0) (fun n=>ag n (tmA ms))) ms i ⟨[],[],([],[])⟩
def stD (i k:Nat):SP:=dF (dP low sto (fun e=>chk e==0) (fun n=>ag n (tmA ms))) (ms.getD i Md.zero).name (ms.getD i Md.zero).decls k (stI low sto chk ms i)
def srI (i:Nat):SR:=mF (dR low sto (fun e=>chk e==0) (fun n=>ag n (tmA ms))) ms i ⟨[],[],[]⟩
def srD (i k:Nat):SR:=dF (dR low sto (fun e=>chk e==0) (fun n=>ag n (tmA ms))) (ms.getD i Md.zero).name (ms.getD i Md.zero).decls k (srI low sto chk ms i)
end
section
variable {low:List UInt8→Bool} {sto:Ty→Bool} {chk:Ex→Int} {ms:List Md} {sums:List Sm}
theorem vB (i:Nat):um (stI low sto chk ms i) (srI low sto chk ms i):=wi (fun doc d s s' h=>qg low sto _ _ doc d s s' h) ms wL i
theorem yk (i k:Nat):um (stD low sto chk ms i k) (srD low sto chk ms i k):=rr (fun doc d s s' h=>qg low sto _ _ doc d s s' h) _ _ (vB i) k
abbrev dcl (ms:List Md) (i k:Nat):Dc:=(ms.getD i Md.zero).decls.getD k Dc.zero
theorem tn (i k:Nat):tmD ms i (k+1)=tmf (ms.getD i Md.zero).name (dcl ms i k) (tmD ms i k):=rfl
theorem qw (i k:Nat):stD low sto chk ms i (k+1)=dP low sto (fun e=>chk e==0) (fun n=>ag n (tmA ms)) (ms.getD i Md.zero).name (dcl ms i k) (stD low sto chk ms i k):=rfl
theorem B5 {i k:Nat} (h:ag ((ms.getD i Md.zero).decls.getD k Dc.zero).name (tmD ms i k)=none) (h2:((ms.getD i Md.zero).decls.getD k Dc.zero).kind=1):tmD ms i (k+1)=bh ((ms.getD i Md.zero).decls.getD k Dc.zero).name ((ms.getD i Md.zero).decls.getD k Dc.zero).tab (tmD ms i k):=by
 rw [tn];unfold tmf;rw [if_pos ⟨h,h2⟩]
theorem Bm {i k:Nat} {x:Tb} (h:ag ((ms.getD i Md.zero).decls.getD k Dc.zero).name (tmD ms i k)=some x):tmD ms i (k+1)=tmD ms i k:=by
 rw [tn];unfold tmf;rw [if_neg (fun q=>by rw [h] at q;exact absurd q.1 zq)]
theorem Be {i k:Nat} (h2:¬ ((ms.getD i Md.zero).decls.getD k Dc.zero).kind=1):tmD ms i (k+1)=tmD ms i k:=by
 rw [tn];unfold tmf;rw [if_neg (fun q=>h2 q.2)]
theorem x8 {i k:Nat} (h:k=(ms.getD i Md.zero).decls.length):tmD ms i k=tmI ms (i+1):=by rw [h];rfl
theorem xH {i k:Nat} (h:k=(ms.getD i Md.zero).decls.length):stD low sto chk ms i k=stI low sto chk ms (i+1):=by rw [h];rfl
theorem A3 {i k:Nat} (h:¬ (dcl ms i k).kind=1):stD low sto chk ms i (k+1)=stD low sto chk ms i k:=by
 rw [qw];unfold dP;rw [if_neg (fun q=>h q.1)]
theorem A8 {i k:Nat} (h:aF (stD low sto chk ms i k).seen (dcl ms i k).name=true):stD low sto chk ms i (k+1)=stD low sto chk ms i k:=by
 rw [qw];unfold dP;rw [if_neg (fun q=>by rw [h] at q;exact absurd q.2 zq)]
theorem By {i k:Nat} (h:(dcl ms i k).kind=1) (h2:¬ aF (stD low sto chk ms i k).seen (dcl ms i k).name=true) (h3:(((bh (dcl ms i k).name true (stD low sto chk ms i k).seen).length:Nat):Int) > 8) :
 stD low sto chk ms i (k+1)=⟨bh (dcl ms i k).name true (stD low sto chk ms i k).seen,(stD low sto chk ms i k).out,ak (ms.getD i Md.zero).name (dcl ms i k) [] (stD low sto chk ms i k).bp⟩:=by
 rw [qw];unfold dP;rw [if_pos ⟨h,Bool.eq_false_iff.2 h2⟩,if_pos oq]
theorem Bq {i k:Nat} (h:(dcl ms i k).kind=1) (h2:¬ aF (stD low sto chk ms i k).seen (dcl ms i k).name=true) (h3:¬ (((bh (dcl ms i k).name true (stD low sto chk ms i k).seen).length:Nat):Int) > 8) :
 stD low sto chk ms i (k+1)=⟨bh (dcl ms i k).name true (stD low sto chk ms i k).seen,(stD low sto chk ms i k).out++[(dcl ms i k).tab.named (dcl ms i k).name],de low sto (fun e=>chk e==0) (fun n=>ag n (tmA ms)) (ms.getD i Md.zero).name (dcl ms i k) (stD low sto chk ms i k).bp⟩:=by
 rw [qw];unfold dP;rw [if_pos ⟨h,Bool.eq_false_iff.2 h2⟩,if_neg oq]
theorem vA {t:Tb} (h:t.ok) (n:List UInt8):(t.named n).ok:=⟨h.c,h.k,h.r,h.z⟩
theorem zE {low:List UInt8→Bool} {sto:Ty→Bool} {chk:Ex→Bool} {fst:List UInt8→Option Tb} {doc:List UInt8} {d:Dc} (hd:d.tab.ok) (s:SP):(dP low sto chk fst doc d s).bp.2.length≤s.bp.2.length+302:=by
 have h1:=hd.c;have h2:=hd.k;have h3:=hd.r
 have ht:=wD (low:=low) (sto:=sto) (chk:=chk) (fst:=fst) (doc:=doc) (d:=d) (s:=s.bp)
 unfold dP
 split
 · split
   · simp [ak]
   · show (de low sto chk fst doc d s.bp).2.length≤_;omega
 · omega
theorem nW (hf:gI sums low sto chk ms) {i:Nat} (hi:i<ms.length):∀ k,k≤(ms.getD i Md.zero).decls.length→(stD low sto chk ms i k).bp.2.length≤(stI low sto chk ms i).bp.2.length+302 * k
 | 0,_=>Nat.le_refl _
 | k+1,h=>by
  have h1:=nW hf hi k oq
  have h2:=zE (d:=dcl ms i k) (low:=low) (sto:=sto) (chk:=fun e=>chk e==0) (fst:=fun n=>ag n (tmA ms)) (doc:=(ms.getD i Md.zero).name) (hf.d i hi k oq).ok.t (stD low sto chk ms i k)
  rw [qw]
  omega
theorem nL (hf:gI sums low sto chk ms):∀ i,i≤ms.length→(stI low sto chk ms i).bp.2.length≤12080 * i
 | 0,_=>Nat.le_refl _
 | i+1,h=>by
  have h1:=nL hf i oq
  have h2:=nW hf (by omega:i<ms.length) _ (Nat.le_refl _)
  have h3:=hf.m i
  show (stD low sto chk ms i (ms.getD i Md.zero).decls.length).bp.2.length≤_
  omega
theorem qF (hf:gI sums low sto chk ms) {i k:Nat} (hi:i<ms.length) (hk:k≤(ms.getD i Md.zero).decls.length):(stD low sto chk ms i k).bp.2.length<50000:=by
 have h1:=nW hf hi k hk
 have h2:=nL hf i oq
 have h3:=hf.m i
 have h4:=hf.n
 omega
theorem AJ {low:List UInt8→Bool} {sto:Ty→Bool} {chk:Ex→Bool} {fst:List UInt8→Option Tb} {doc:List UInt8} {d:Dc} (hd:d.tab.ok) {s:SP} (h:∀ t∈s.out,t.ok):∀ t∈(dP low sto chk fst doc d s).out,t.ok:=by
 unfold dP
 split
 · split
   · exact h
   · intro t ht
     rcases List.mem_append.1 ht with q|q
     · exact h t q
     · rw [List.mem_singleton] at q;subst q;exact vA hd _
 · exact h
theorem u0 (hf:gI sums low sto chk ms) {i:Nat} (hi:i<ms.length) (h:∀ t∈(stI low sto chk ms i).out,t.ok):∀ k,k≤(ms.getD i Md.zero).decls.length→∀ t∈(stD low sto chk ms i k).out,t.ok
 | 0,_=>h
 | k+1,hk=>AJ (hf.d i hi k oq).ok.t (u0 hf hi h k oq)
theorem rA (hf:gI sums low sto chk ms):∀ i,i≤ms.length→∀ t∈(stI low sto chk ms i).out,t.ok
 | 0,_=>fun t ht=>by cases ht
 | i+1,h=>u0 hf oq (rA hf i oq) _ (Nat.le_refl _)
theorem xg {l:Tm_} {n:List UInt8} {v:Tb} (hv:v.ok) (h:∀ k x,ag k l=some x→x.ok):∀ k x,ag k (bh n v l)=some x→x.ok:=by
 intro k x hx
 rw [ip] at hx
 split at hx
 · cases hx;exact hv
 · exact h k x hx
theorem wP (hf:gI sums low sto chk ms) {i:Nat} (hi:i<ms.length) (h:∀ n x,ag n (tmI ms i)=some x→x.ok):∀ k,k≤(ms.getD i Md.zero).decls.length→∀ n x,ag n (tmD ms i k)=some x→x.ok
 | 0,_=>h
 | k+1,hk=>by
  have ih:=wP hf hi h k oq
  rw [tn]
  unfold tmf
  split
  · exact xg (hf.d i hi k oq).ok.t ih
  · exact ih
theorem wM (hf:gI sums low sto chk ms):∀ i,i≤ms.length→∀ n x,ag n (tmI ms i)=some x→x.ok
 | 0,_=>fun n x h=>by cases h
 | i+1,h=>wP hf oq (wM hf i oq) _ (Nat.le_refl _)
theorem zx (hf:gI sums low sto chk ms):∀ n x,ag n (tmA ms)=some x→x.ok:=wM hf _ (Nat.le_refl _)
end
theorem i6 (B:List (List UInt8×Bool)) (l:List Tb):∀ k,(itP B k l).Sublist l
 | 0=>List.Sublist.refl _
 | k+1=>List.filter_sublist.trans (i6 B l k)
theorem la {B:List (List UInt8×Bool)} {l:List Tb} {k:Nat} (h:dt B (itP B k l)=itP B k l):∀ j,itP B (k+j) l=itP B k l
 | 0=>rfl
 | j+1=>by rw [← Nat.add_assoc,itP,la h j,h]
theorem sN (B:List (List UInt8×Bool)) (l:List Tb):∀ k,(∀ j,j<k→¬ dt B (itP B j l)=itP B j l)→(itP B k l).length+k≤l.length
 | 0,_=>Nat.le_refl _
 | k+1,h=>by
  have h1:=sN B l k (fun j hj=>h j oq)
  have h2:(dt B (itP B k l)).length≤(itP B k l).length:=(List.filter_sublist).length_le
  have h3:¬ (itP B k l).length≤(dt B (itP B k l)).length:=fun q=>h k oq (ge List.filter_sublist q)
  show (dt B (itP B k l)).length+(k+1)≤_
  omega
theorem yP {B:List (List UInt8×Bool)} {l:List Tb} (hl:l.length≤8):dt B (itP B 9 l)=itP B 9 l:=by
 apply Classical.byContradiction;intro hc
 have hall:∀ j,j<9→¬ dt B (itP B j l)=itP B j l:=fun j hj q=>hc (by
  have e:=la q (9 - j)
  rw [show j+(9 - j)=9 by omega] at e
  rw [e,q])
 have:=sN B l 9 hall
 omega
theorem w7 {B:List (List UInt8×Bool)} {l:List Tb} (hl:l.length≤8) {k:Nat} (h:(itP B k l).length≤(dt B (itP B k l)).length):itP B k l=itP B 9 l:=by
 have hk:dt B (itP B k l)=itP B k l:=ge List.filter_sublist h
 rcases Nat.le_total k 9 with q|q
 · obtain ⟨c,hc⟩:=Nat.le.dest q
   rw [← hc,la hk]
 · obtain ⟨c,rfl⟩:=Nat.le.dest q
   exact la (yP hl) c
theorem nQ {l:List Tb} {p:Tb→Bool} (h:l.any p=true):(l.filter (fun t=>!p t)).length<l.length:=by
 rw [List.any_eq_true] at h
 obtain ⟨x,h1,h2⟩:=h
 have h3:(l.filter (fun t=>!p t)).length≤l.length:=(List.filter_sublist).length_le
 rcases Nat.lt_or_eq_of_le h3 with q|q
 · exact q
 · have:=ge (List.filter_sublist (p:=fun t=>!p t)) (Nat.le_of_eq q.symm)
   rw [List.filter_eq_self] at this
   have:=this x h1
   rw [h2] at this;cases this
theorem wu {l:List Tb} {p:Tb→Bool} (h:¬ l.any p=true):l.filter (fun t=>!p t)=l:=by
 rw [List.filter_eq_self];intro x hx
 cases e:p x with
 | false=>rfl
 | true=>exact absurd (List.any_eq_true.2 ⟨x,hx,e⟩) h
theorem qP:ao cx 72 [.imm [],.fn (.func 73) [] []] (.tup []):=bq (p:=xp) cxM bA b8 60 false 72 [.imm [],.fn (.func 73) [] []] [] (.tup [],[]) kq
noncomputable def c24:Code:=aT Tryz.f24
theorem uf (ms:List Md) (hn:ms.length≤2) (hm:∀ i,(ms.getD i Md.zero).decls.length≤40) (hk1:∀ i,i<ms.length→∀ k,k<(ms.getD i Md.zero).decls.length→(dcl ms i k).kind=1):ao cx 24 [.imm (ms.map Md.v)] (.imm []):=by
 refine aC (cx:=cx) 109 0 [(ResultVar.tmp 2)] Tryz.func24 rfl rfl rfl rfl rfl zq ?_
 show wpA cx 109 0 (at_ c24 []) _ _ _
 refine qZ [(0,.imm (ms.map Md.v))] [] ?_ ?_
 refine qU 1 [(0,.imm (ms.map Md.v))] ?_ ?_
 refine qU 1 [(0,.imm (ms.map Md.v)),(3,.full [])] ?_ ?_
 refine qW 2 [(0,.imm (ms.map Md.v)),(3,.full []),(4,.map 0)] [.map (ac aa.str aa.bool ([]:List (List UInt8×Bool)))] ?_ ?_
 refine qW 2 [(0,.imm (ms.map Md.v)),(3,.full []),(4,.map 0),(5,.map 1)] [.map (ac aa.str aa.bool ([]:List (List UInt8×Bool))),.map (ac aa.str aa.bool ([]:List (List UInt8×Bool)))] ?_ ?_
 refine az ?_ ?_
 refine qV 1 ?_ ?_
 refine qy (aw (l:=ms) (enc:=Md.v) kq iw) ?_ ?_ ?_
 refine qR 1 [(3,.full []),(4,.map 0),(5,.map 1),(16,.imm (ms.map Md.v)),(17,nI ms.length),(18,.int .i64 0)] [.map (ac aa.str aa.bool ([]:List (List UInt8×Bool))),.map (ac aa.str aa.bool ([]:List (List UInt8×Bool)))] ?_ ?_
 refine qB 0 ?_ ?_ ?_
 refine bn (σ:=Nat) (fun i=>[(3,.full []),(4,.map 0),(5,.map 1),(16,.imm (ms.map Md.v)),(17,.int .i64 ((ms.length:Nat):Int)),(18,.int .i64 ((i:Nat):Int))]) (fun i=>[.map (ac aa.str aa.bool ([]:List (List UInt8×Bool))),.map (ac aa.str aa.bool ([]:List (List UInt8×Bool)))]) (fun i=>i≤ms.length) (fun i=>ms.length - i) 0 kq (by exact Nat.zero_le _) ⟨⟨kq,kq,kq,kq,kq,kq,trivial⟩,by simp [aG,aa.bel],by simp,kq,by simp [ai.belO,av,aa.bel]⟩ ?_
 rintro i hi
 have hmi:=hm i
 refine qW 1 [(3,.full []),(4,.map 0),(5,.map 1),(16,.imm (ms.map Md.v)),(17,nI ms.length),(18,nI i),(19,.bool (decide (((i:Nat):Int)<((ms.length:Nat):Int))))] [.map (ac aa.str aa.bool ([]:List (List UInt8×Bool))),.map (ac aa.str aa.bool ([]:List (List UInt8×Bool)))] ?_ ?_
 refine az ?_ ?_
 by_cases hb1:((i:Nat):Int)<((ms.length:Nat):Int)
 refine qt (decide_eq_true hb1) ?_ ?_
 refine qK ?_ ?_
 refine qz [(3,.full []),(4,.map 0),(5,.map 1),(16,.imm (ms.map Md.v)),(17,nI ms.length),(18,nI i)] ?_ ?_
 refine az ?_ ?_
 refine qB 1 ?_ ?_ ?_
 refine qO ?_ ?_
 refine qy ((aA (k:=.i64) (l:=ms) (enc:=Md.v) (i:=((i:Nat):Int)) Md.zero kq iw mE (fun _=>rfl) oq oq).trans (congrArg (fun cs=>some (aa.pimm cs 0,_)) (dh (ms.getD i Md.zero)))) ?_ ?_ ?_
 refine qR 3 [(3,.full []),(4,.map 0),(5,.map 1),(7,.ptr 2 0),(16,.imm (ms.map Md.v)),(17,nI ms.length),(18,nI i)] [.map (ac aa.str aa.bool ([]:List (List UInt8×Bool))),.map (ac aa.str aa.bool ([]:List (List UInt8×Bool))),.box [.str (ms.getD i Md.zero).name,.imm ((ms.getD i Md.zero).decls.map Dc.v)]] ?_ ?_
 refine Ac kq ?_
 refine az ?_ ?_
 refine zS kq ?_
 refine ab ?_
 refine qz [(3,.full []),(4,.map 0),(5,.map 1),(7,.ptr 2 0),(16,.imm (ms.map Md.v)),(17,nI ms.length),(18,nI i)] ?_ ?_
 refine qV 2 ?_ ?_
 refine qy (aw (l:=(ms.getD i Md.zero).decls) (enc:=Dc.v) kq dG) ?_ ?_ ?_
 refine qR 1 [(3,.full []),(4,.map 0),(5,.map 1),(16,.imm (ms.map Md.v)),(17,nI ms.length),(18,nI i),(23,.imm ((ms.getD i Md.zero).decls.map Dc.v)),(24,nI ((ms.getD i Md.zero).decls.length)),(25,.int .i64 0)] [.map (ac aa.str aa.bool ([]:List (List UInt8×Bool))),.map (ac aa.str aa.bool ([]:List (List UInt8×Bool))),.box [.str (ms.getD i Md.zero).name,.imm ((ms.getD i Md.zero).decls.map Dc.v)]] ?_ ?_
 refine qB 2 ?_ ?_ ?_
 refine bn (σ:=Nat) (fun k=>[(3,.full []),(4,.map 0),(5,.map 1),(16,.imm (ms.map Md.v)),(17,.int .i64 ((ms.length:Nat):Int)),(18,.int .i64 ((i:Nat):Int)),(23,.imm ((ms.getD i Md.zero).decls.map Dc.v)),(24,.int .i64 (((ms.getD i Md.zero).decls.length:Nat):Int)),(25,.int .i64 ((k:Nat):Int))]) (fun k=>[.map (ac aa.str aa.bool ([]:List (List UInt8×Bool))),.map (ac aa.str aa.bool ([]:List (List UInt8×Bool))),.box [.str (ms.getD i Md.zero).name,.imm ((ms.getD i Md.zero).decls.map Dc.v)]]) (fun k=>k≤(ms.getD i Md.zero).decls.length) (fun k=>(ms.getD i Md.zero).decls.length - k) 0 kq (by exact Nat.zero_le _) ⟨⟨kq,kq,kq,kq,kq,kq,kq,kq,kq,trivial⟩,by simp [aG,aa.bel],by simp,kq,by simp [ai.belO,av,aa.bel]⟩ ?_
 rintro k hk
 refine qW 1 [(3,.full []),(4,.map 0),(5,.map 1),(16,.imm (ms.map Md.v)),(17,nI ms.length),(18,nI i),(23,.imm ((ms.getD i Md.zero).decls.map Dc.v)),(24,nI ((ms.getD i Md.zero).decls.length)),(25,nI k),(26,.bool (decide (((k:Nat):Int)<(((ms.getD i Md.zero).decls.length:Nat):Int))))] [.map (ac aa.str aa.bool ([]:List (List UInt8×Bool))),.map (ac aa.str aa.bool ([]:List (List UInt8×Bool))),.box [.str (ms.getD i Md.zero).name,.imm ((ms.getD i Md.zero).decls.map Dc.v)]] ?_ ?_
 refine az ?_ ?_
 by_cases hb2:((k:Nat):Int)<(((ms.getD i Md.zero).decls.length:Nat):Int)
 refine qt (decide_eq_true hb2) ?_ ?_
 refine qK ?_ ?_
 refine qz [(3,.full []),(4,.map 0),(5,.map 1),(16,.imm (ms.map Md.v)),(17,nI ms.length),(18,nI i),(23,.imm ((ms.getD i Md.zero).decls.map Dc.v)),(24,nI ((ms.getD i Md.zero).decls.length)),(25,nI k)] ?_ ?_
 refine az ?_ ?_
 refine qB 3 ?_ ?_ ?_
 refine qO ?_ ?_
 refine qy ((aA (k:=.i64) (l:=(ms.getD i Md.zero).decls) (enc:=Dc.v) (i:=((k:Nat):Int)) Dc.zero kq dG iV (fun _=>rfl) oq oq).trans (congrArg (fun cs=>some (aa.pimm cs 0,_)) (eR ((ms.getD i Md.zero).decls.getD k Dc.zero)))) ?_ ?_ ?_
 refine qR 3 [(3,.full []),(4,.map 0),(5,.map 1),(9,.ptr 3 0),(16,.imm (ms.map Md.v)),(17,nI ms.length),(18,nI i),(23,.imm ((ms.getD i Md.zero).decls.map Dc.v)),(24,nI ((ms.getD i Md.zero).decls.length)),(25,nI k)] [.map (ac aa.str aa.bool ([]:List (List UInt8×Bool))),.map (ac aa.str aa.bool ([]:List (List UInt8×Bool))),.box [.str (ms.getD i Md.zero).name,.imm ((ms.getD i Md.zero).decls.map Dc.v)],.box (Dc.cs ((ms.getD i Md.zero).decls.getD k Dc.zero))] ?_ ?_
 refine az ?_ ?_
 refine qV 4 ?_ ?_
 by_cases hb3:(((ms.getD i Md.zero).decls.getD k Dc.zero).kind)=0
 · exfalso;have:=hk1 i oq k oq;rw [dcl] at this;omega
 refine qm [31,32] (x:=((((ms.getD i Md.zero).decls.getD k Dc.zero).kind) != 0)) (bne_iff_ne.2 hb3) ?_ ?_
 refine qR 5 [(3,.full []),(4,.map 0),(5,.map 1),(9,.ptr 3 0),(16,.imm (ms.map Md.v)),(17,nI ms.length),(18,nI i),(23,.imm ((ms.getD i Md.zero).decls.map Dc.v)),(24,nI ((ms.getD i Md.zero).decls.length)),(25,nI k),(33,.tup []),(34,.tup []),(35,.tup []),(36,.tup []),(37,.bool true)] [.map (ac aa.str aa.bool ([]:List (List UInt8×Bool))),.map (ac aa.str aa.bool ([]:List (List UInt8×Bool))),.box [.str (ms.getD i Md.zero).name,.imm ((ms.getD i Md.zero).decls.map Dc.v)],.box (Dc.cs ((ms.getD i Md.zero).decls.getD k Dc.zero))] ?_ ?_
 refine cU kq kq ?_
 refine a6 3 kq kq ?_
 refine af ?_
 refine aE ?_
 refine ab ?_
 refine qz [(3,.full []),(4,.map 0),(5,.map 1),(16,.imm (ms.map Md.v)),(17,nI ms.length),(18,nI i),(23,.imm ((ms.getD i Md.zero).decls.map Dc.v)),(24,nI ((ms.getD i Md.zero).decls.length)),(25,nI k),(33,.tup []),(34,.tup []),(35,.tup []),(36,.tup [])] ?_ ?_
 refine qo ?_ ?_
 refine qy (aI (a:=((k:Nat):Int)) (b:=1) kq oq oq) ?_ ?_ ?_
 refine qr 1 ?_ ?_
 refine qe ?_ ?_
 refine ab ⟨k+1,?_,?_,⟨⟨kq,kq,kq,kq,kq,kq,kq,kq,kq,trivial⟩,by simp [aG,aa.bel],by simp,kq,by simp [ai.belO,av,aa.bel]⟩⟩
 · omega
 · omega
 iterate 20 kernel_rfl
 refine qf (decide_eq_false hb2) ?_ ?_
 refine a6 2 kq kq ?_
 refine af ?_
 refine af ?_
 refine aE ?_
 refine lX ?_
 refine ah ?_
 refine ab ?_
 refine qz [(3,.full []),(4,.map 0),(5,.map 1),(16,.imm (ms.map Md.v)),(17,nI ms.length),(18,nI i)] ?_ ?_
 refine qo ?_ ?_
 refine qy (aI (a:=((i:Nat):Int)) (b:=1) kq oq oq) ?_ ?_ ?_
 refine qr 1 ?_ ?_
 refine qe ?_ ?_
 refine ab ⟨i+1,?_,?_,⟨⟨kq,kq,kq,kq,kq,kq,trivial⟩,by simp [aG,aa.bel],by simp,kq,by simp [ai.belO,av,aa.bel]⟩⟩
 · omega
 · omega
 iterate 27 kernel_rfl
 refine qf (decide_eq_false hb1) ?_ ?_
 refine a6 0 kq kq ?_
 refine af ?_
 refine af ?_
 refine aE ?_
 refine ab ?_
 refine qz [(3,.full [])] ?_ ?_
 refine qV 1 ?_ ?_
 refine qc [.full [],.fn (.func 73) [] []] (qP) ?_ ?_
 refine qN [(3,.full [])] [.map (ac aa.str aa.bool ([]:List (List UInt8×Bool))),.map (ac aa.str aa.bool ([]:List (List UInt8×Bool)))] ?_ ?_
 refine qU 2 [(2,.full [])] ?_ ?_
 refine cK kq ?_
 refine gH (l:=[.full []]) (.inr rfl) kq ?_
 · simp [a8,aa.frz,aZ]
 iterate 20 kernel_rfl
end Go.Proofs.YtcpklndelobigaaGreatDoor
