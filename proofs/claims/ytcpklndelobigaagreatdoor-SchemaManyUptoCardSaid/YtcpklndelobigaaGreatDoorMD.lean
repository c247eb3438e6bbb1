/- The reference's From, as a function of the workspace. Conditions: a workspace of a size that can be had, of whose declarations the leaves answer. -/
import Derived.Test.YtcpklndelobigaaGreatDoorMC
set_option linter.all false
namespace Go.Proofs.YtcpklndelobigaaGreatDoor
open Go.Proofs.YtcpklndelobigaaGreatDoor.Abs
set_option maxRecDepth 20000
set_option maxHeartbeats 4000000
structure th (sums:List Sm) (low:List UInt8→Bool) (sto:Ty→Bool) (chk:Ex→Int) (ms:List Md):Prop where
 d:∀ i,i<ms.length→∀ k,k<(ms.getD i Md.zero).decls.length→sV sums low sto chk ((ms.getD i Md.zero).decls.getD k Dc.zero)
theorem th.ok {sums:List Sm} {low:List UInt8→Bool} {sto:Ty→Bool} {chk:Ex→Int} {ms:List Md} (h:th sums low sto chk ms):∀ m∈ms,∀ d∈m.decls,d.tab.ok:=by
 intro m hm d hd
 obtain ⟨i,hi,rfl⟩:=List.getElem_of_mem hm
 obtain ⟨k,hk,rfl⟩:=List.getElem_of_mem hd
 have h1:=h.d i hi k (by rw [bJ _ _ _ hi];exact hk)
 rw [bJ _ _ _ hi] at h1
 rw [bJ _ _ _ hk] at h1
 exact h1.ok.t
section
variable {low:List UInt8→Bool} {sto:Ty→Bool} {chk:Ex→Int} {ms:List Md} {sums:List Sm} {i k:Nat}
def wr8 (low:List UInt8→Bool) (sto:Ty→Bool) (chk:Ex→Int) (ms:List Md) (i k:Nat):List (List (List UInt8)):=mt low sto (fun e=>chk e==0) (fun n=>ag n (tmA ms)) ((srD low sto chk ms i k).seen++[(dcl ms i k).name]).length (dcl ms i k)
theorem oL (hL:sV sums low sto chk (dcl ms i k)) (hn:ms.length≤2) (hm:∀ i,(ms.getD i Md.zero).decls.length≤40) (hok:∀ m∈ms,∀ d∈m.decls,d.tab.ok):ao cx 38 [.imm (ms.map Md.v),.imm (sums.map Sm.v),(dcl ms i k).v] (.tup [.imm ((wr low sto (fun e=>chk e==0) (fun n=>ag n (tmA ms)) (dcl ms i k)).1.map Ls.v),.bool (wr low sto (fun e=>chk e==0) (fun n=>ag n (tmA ms)) (dcl ms i k)).2]):=by
 have:=ra low sto chk sums ms (dcl ms i k) hL hn hm hok
 rw [← y7 ms] at this;exact this
theorem sW (i k:Nat):srD low sto chk ms i (k+1)=dR low sto (fun e=>chk e==0) (fun n=>ag n (tmA ms)) (ms.getD i Md.zero).name (dcl ms i k) (srD low sto chk ms i k):=rfl
theorem yw (h:k=(ms.getD i Md.zero).decls.length):srD low sto chk ms i k=srI low sto chk ms (i+1):=by rw [h];rfl
theorem Ck (h:¬ (dcl ms i k).kind=1):srD low sto chk ms i (k+1)=srD low sto chk ms i k:=by
 rw [sW];unfold dR;rw [if_neg (fun q=>h q.1)]
theorem AM (h:aS (srD low sto chk ms i k).seen (dcl ms i k).name ≥ 0):srD low sto chk ms i (k+1)=srD low sto chk ms i k:=by
 rw [sW];unfold dR;rw [if_neg (fun q=>by rw [pt h] at q;exact absurd q.2 zq)]
theorem u7 (h:(dcl ms i k).kind=1) (h2:¬ aS (srD low sto chk ms i k).seen (dcl ms i k).name ≥ 0):srD low sto chk ms i (k+1)=⟨(srD low sto chk ms i k).seen++[(dcl ms i k).name],if (wr8 low sto chk ms i k).isEmpty=true∧(wr low sto (fun e=>chk e==0) (fun n=>ag n (tmA ms)) (dcl ms i k)).2=false then nE ((dcl ms i k).tab.named (dcl ms i k).name) (srD low sto chk ms i k).out else (srD low sto chk ms i k).out,(srD low sto chk ms i k).ps++(wr8 low sto chk ms i k).map (bg (ms.getD i Md.zero).name (dcl ms i k))⟩:=by
 rw [sW];unfold dR;rw [if_pos ⟨h,oR h2⟩];rfl
theorem yJ (h:(dcl ms i k).kind=1) (h2:¬ aS (srD low sto chk ms i k).seen (dcl ms i k).name ≥ 0) (h3:(((wr8 low sto chk ms i k).length:Nat):Int) > 0):srD low sto chk ms i (k+1)=⟨(srD low sto chk ms i k).seen++[(dcl ms i k).name],(srD low sto chk ms i k).out,(srD low sto chk ms i k).ps++(wr8 low sto chk ms i k).map (bg (ms.getD i Md.zero).name (dcl ms i k))⟩:=by
 rw [u7 h h2,if_neg]
 rintro ⟨q,_⟩
 rw [List.isEmpty_iff] at q;rw [q] at h3;simp at h3
theorem yF (h:(dcl ms i k).kind=1) (h2:¬ aS (srD low sto chk ms i k).seen (dcl ms i k).name ≥ 0) (h3:(wr low sto (fun e=>chk e==0) (fun n=>ag n (tmA ms)) (dcl ms i k)).2=true):srD low sto chk ms i (k+1)=⟨(srD low sto chk ms i k).seen++[(dcl ms i k).name],(srD low sto chk ms i k).out,(srD low sto chk ms i k).ps++(wr8 low sto chk ms i k).map (bg (ms.getD i Md.zero).name (dcl ms i k))⟩:=by
 rw [u7 h h2,if_neg]
 rintro ⟨_,q⟩
 rw [h3] at q;cases q
theorem sE (h:(dcl ms i k).kind=1) (h2:¬ aS (srD low sto chk ms i k).seen (dcl ms i k).name ≥ 0) (h3:¬ (((wr8 low sto chk ms i k).length:Nat):Int) > 0) (h4:¬ (wr low sto (fun e=>chk e==0) (fun n=>ag n (tmA ms)) (dcl ms i k)).2=true):srD low sto chk ms i (k+1)=⟨(srD low sto chk ms i k).seen++[(dcl ms i k).name],nE ((dcl ms i k).tab.named (dcl ms i k).name) (srD low sto chk ms i k).out,(srD low sto chk ms i k).ps++(wr8 low sto chk ms i k).map (bg (ms.getD i Md.zero).name (dcl ms i k))⟩:=by
 rw [u7 h h2,if_pos]
 exact ⟨by rw [List.isEmpty_iff];exact List.eq_nil_of_length_eq_zero oq,Bool.eq_false_iff.2 h4⟩
theorem BQ (h:((((srD low sto chk ms i k).seen++[(dcl ms i k).name]).length:Nat):Int) > 8):wr8 low sto chk ms i k=[[]]:=by
 unfold wr8 mt;rw [if_pos oq]
theorem B0 (h:¬ ((((srD low sto chk ms i k).seen++[(dcl ms i k).name]).length:Nat):Int) > 8):wr8 low sto chk ms i k=(wr low sto (fun e=>chk e==0) (fun n=>ag n (tmA ms)) (dcl ms i k)).1:=by
 unfold wr8 mt;rw [if_neg oq]
theorem CZ (i k:Nat):(srD low sto chk ms i k).out.length≤8:=by
 have h:=yk (low:=low) (sto:=sto) (chk:=chk) (ms:=ms) i k
 have h1:=h.perm.length_eq
 have h2:((stD low sto chk ms i k).out.filter fun t=>!aF (stD low sto chk ms i k).bp.1 t.name).length≤(stD low sto chk ms i k).out.length:=List.length_filter_le _ _
 have:=h.len.1
 omega
theorem i5 (hf:gI sums low sto chk ms):∀ k,(srD low sto chk ms i k).seen.length≤(srI low sto chk ms i).seen.length+k
 | 0=>Nat.le_refl _
 | k+1=>by
  have:=i5 hf k
  rw [sW];unfold dR;split
  · simp;omega
  · omega
theorem ky (hf:gI sums low sto chk ms):∀ i,i≤ms.length→(srI low sto chk ms i).seen.length≤40 * i
 | 0,_=>Nat.le_refl _
 | i+1,h=>by
  have h1:=ky hf i oq
  have h2:=i5 hf (i:=i) (ms.getD i Md.zero).decls.length
  have h3:=hf.m i
  show (srD low sto chk ms i (ms.getD i Md.zero).decls.length).seen.length≤_
  omega
theorem wB (hf:gI sums low sto chk ms) (hi:i<ms.length) (hk:k≤(ms.getD i Md.zero).decls.length):(srD low sto chk ms i k).ps.length<50000:=by
 rw [← (yk (low:=low) (sto:=sto) (chk:=chk) (ms:=ms) i k).ps];exact qF hf hi hk
theorem wd {l:List Tb} {n:List UInt8} {a m:Nat} (h:dH l n a=dH l n m) (h1:((a:Nat):Int) > 0) (h2:¬ (aX (l.getD (((a:Nat):Int) - 1).toNat Tb.zero).name n || (l.getD (((a:Nat):Int) - 1).toNat Tb.zero).name==n)=true):dH l n (a - 1)=dH l n m:=by
 replace h2:gtS (l.getD (((a:Nat):Int) - 1).toNat Tb.zero).name n=true:=by unfold gtS;rw [Bool.eq_false_iff.2 h2];rfl
 cases a with
 | zero=>omega
 | succ a =>
  rw [show (((a+1:Nat):Int) - 1).toNat=a by omega] at h2
  rw [← h,dH,if_pos h2,Nat.add_sub_cancel]
theorem v8 {l:List Tb} {n:List UInt8} {a m:Nat} (h:dH l n a=dH l n m) (h1:((a:Nat):Int) > 0) (h2:(aX (l.getD (((a:Nat):Int) - 1).toNat Tb.zero).name n || (l.getD (((a:Nat):Int) - 1).toNat Tb.zero).name==n)=true):a=dH l n m:=by
 replace h2:¬ gtS (l.getD (((a:Nat):Int) - 1).toNat Tb.zero).name n=true:=by unfold gtS;rw [h2];decide
 cases a with
 | zero=>omega
 | succ a =>
  rw [show (((a+1:Nat):Int) - 1).toNat=a by omega] at h2
  rw [← h,dH,if_neg h2]
theorem vr {l:List Tb} {n:List UInt8} {a m:Nat} (h:dH l n a=dH l n m) (h1:¬ ((a:Nat):Int) > 0):a=dH l n m:=by
 obtain rfl:a=0:=by omega
 exact h
theorem w6 {t:Tb} {l:List Tb} {a:Nat} (h:a=dH l t.name l.length):nE t l=(l.take a++[t])++(l.take l.length).drop a:=by unfold nE;rw [h,List.take_length]
def keep (l:List Tb) (t:Tb):Bool:=t.refs.all (fun r=>ck l r.tab)
theorem Bt {l:List Rf} {p:Rf→Bool} {j:Nat} (h:j<l.length):(l.take (j+1)).all p=((l.take j).all p && p (l.getD j Rf.zero)):=by
 rw [bZ l Rf.zero j h];simp
theorem rk {l:List Tb} {p:Tb→Bool} {b:Bool} {j:Nat} (h:j<l.length) (hb:p (l.getD j Tb.zero)=b):(l.take (j+1)).filter p=(bif b then (l.take j).filter p++[l.getD j Tb.zero] else (l.take j).filter p):=by
 rw [bZ l Tb.zero j h,List.filter_append,List.filter_cons,hb];cases b <;> simp
theorem vn {l:List Tb} {p:Tb→Bool} {b:Bool} {j:Nat} (h:j<l.length) (hb:p (l.getD j Tb.zero)=b):(l.take (j+1)).any (fun t=>!p t)=((l.take j).any (fun t=>!p t) || !b):=by
 rw [bZ l Tb.zero j h,List.any_append,List.any_cons,List.any_nil,hb,Bool.or_false]
theorem xy (l:List Tb) (q:Nat):(itR q l).length≤l.length:=(jd l q).length_le
theorem tu (l:List Tb):∀ k,(∀ j,j<k→¬ b9 (itR j l)=itR j l)→(itR k l).length+k≤l.length
 | 0,_=>Nat.le_refl _
 | k+1,h=>by
  have h1:=tu l k (fun j hj=>h j oq)
  have h2:=(fF (itR k l)).length_le
  have h3:¬ (itR k l).length≤(b9 (itR k l)).length:=fun q=>h k oq (ge (fF _) q)
  show (b9 (itR k l)).length+(k+1)≤_
  omega
theorem yI {l:List Tb} (hl:l.length≤8):b9 (itR 9 l)=itR 9 l:=by
 apply Classical.byContradiction;intro hc
 have hall:∀ j,j<9→¬ b9 (itR j l)=itR j l:=fun j hj q=>hc (by
  have e:=ii q (9 - j)
  rw [show j+(9 - j)=9 by omega] at e
  rw [e,q])
 have:=tu l 9 hall
 omega
theorem xx {l:List Tb} (hl:l.length≤8) {k:Nat} (h:b9 (itR k l)=itR k l):itR k l=itR 9 l:=by
 rcases Nat.le_total k 9 with q|q
 · obtain ⟨c,hc⟩:=Nat.le.dest q
   rw [← hc,ii h]
 · obtain ⟨c,rfl⟩:=Nat.le.dest q
   exact ii (yI hl) c
theorem p7 {l:List Tb} (h:¬ l.any (fun t=>!keep l t)=true):b9 l=l:=by
 unfold b9;rw [List.filter_eq_self];intro t ht
 cases e:t.refs.all (fun r=>ck l r.tab) with
 | true=>rfl
 | false=>exact absurd (List.any_eq_true.2 ⟨t,ht,by show (!keep l t)=true;unfold keep;rw [e];rfl⟩) h
theorem CY {α β:Type} {P:List β} {L:List α} {f:α→β} {d:α} {j:Nat} (h:j<L.length):P++(L.take (j+1)).map f=(P++(L.take j).map f)++[f (L.getD j d)]:=by
 rw [bZ L d j h,List.map_append,← List.append_assoc];rfl
theorem xJ {d:Dc} (hd:d=dcl ms i k) (hk:d.tab.ok):(wr8 low sto chk ms i k).length≤302:=by
 subst hd
 have h1:=hk.c;have h2:=hk.k;have h3:=hk.r
 have q1:=sZ low sto chk (dcl ms i k)
 have q2:=oA (fst:=fun n=>ag n (tmA ms)) (t:=(dcl ms i k).tab) (wr2 low sto (fun e=>chk e==0) (dcl ms i k)) (dcl ms i k).tab.refs.length
 unfold wr8 mt;split
 · simp
 · show (wrR (fun n=>ag n (tmA ms)) (dcl ms i k).tab (dcl ms i k).tab.refs.length (wr2 low sto (fun e=>chk e==0) (dcl ms i k))).1.length≤_
   omega
theorem yg {l:List Tb} (h:l.any (fun t=>!keep l t)=true):(b9 l).length<l.length:=by
 have:=nQ h
 have e:l.filter (fun t=>!(fun t=>!keep l t) t)=b9 l:=by
  unfold b9;refine List.filter_congr fun t _=>?_
  show (!(!keep l t))=keep l t
  simp
 rw [e] at this;exact this
theorem vK {l:List Tb} (h:¬ l.any (fun t=>!keep l t)=true):b9 (b9 l)=b9 l:=by
 rw [p7 h];exact p7 h
theorem B7 {l:List Tb} {b:Bool} {x:Nat} (hb:b=true) (hx:l.length≤x):(bif (l.take x).any (fun t=>!keep l t) then (b9 l).length+1 else 0)<(bif b then l.length+1 else 0):=by
 subst hb
 rw [List.take_of_length_le hx]
 cases h:l.any (fun t=>!keep l t) with
 | true=>have:=yg h;simp only [cond_true];omega
 | false=>simp
theorem wR {l:List Tb} {x:Nat} (hx:l.length≤x) (h:(l.take x).any (fun t=>!keep l t)=false):b9 (b9 l)=b9 l:=by
 rw [List.take_of_length_le hx] at h
 exact vK (by rw [h];decide)
def tx (low:List UInt8→Bool) (sto:Ty→Bool) (chk:Ex→Int) (ms:List Md) (sums:List Sm):Sc:=⟨sums,itR 9 (srI low sto chk ms ms.length).out⟩
theorem oz:(srI low sto chk ms ms.length).out.length≤8:=by
 have h:=(vB (low:=low) (sto:=sto) (chk:=chk) (ms:=ms) ms.length)
 have h1:=h.perm.length_eq
 have h2:((stI low sto chk ms ms.length).out.filter fun t=>!aF (stI low sto chk ms ms.length).bp.1 t.name).length≤(stI low sto chk ms ms.length).out.length:=List.length_filter_le _ _
 have:=h.len.1
 omega
end
theorem zD {low:List UInt8→Bool} {sto:Ty→Bool} {chk:Ex→Int} {ms:List Md} {sums:List Sm} (hf:gI sums low sto chk ms):∀ t∈(srI low sto chk ms ms.length).out,t.ok:=by
 intro t ht
 have h:=(vB (low:=low) (sto:=sto) (chk:=chk) (ms:=ms) ms.length)
 exact rA hf ms.length (Nat.le_refl _) t (List.mem_filter.1 (h.perm.mem_iff.1 ht)).1
theorem zC {low:List UInt8→Bool} {sto:Ty→Bool} {chk:Ex→Int} {ms:List Md} {sums:List Sm} (hf:gI sums low sto chk ms) {q:Nat} (x:Nat):((itR q (srI low sto chk ms ms.length).out).getD x Tb.zero).refs.length≤100:=by
 by_cases hx:x<(itR q (srI low sto chk ms ms.length).out).length
 · exact (zD hf _ ((jd _ q).subset (c5 _ _ _ hx))).r
 · rw [List.getD_eq_getElem?_getD,List.getElem?_eq_none oq];decide
noncomputable def c8:Code:=aT Tryz.f8
theorem A7 {p:Prop} (h:p:=by rw [Bt oq];first|(rw [(by assumption:((((itR q (srI low sto chk ms ms.length).out).getD x Tb.zero).refs.take y).all (fun r=>ck (itR q (srI low sto chk ms ms.length).out) r.tab))=true)];rfl)|(rw [Bool.eq_false_iff.2 (by assumption:¬ ((((itR q (srI low sto chk ms ms.length).out).getD x Tb.zero).refs.take y).all (fun r=>ck (itR q (srI low sto chk ms ms.length).out) r.tab))=true)];rfl)):p:=h
theorem BY {p:Prop} (h:p:=by rw [List.take_of_length_le (by omega:(wr8 low sto chk ms i k).length≤j)];rw [sE aq aq aq aq];rw [w6 (a:=a) (by show a=dH _ (dcl ms i k).name _;first|exact vr ha.1 aq|exact v8 ha.1 aq aq)] <;> (show _=_;kernel_rfl)):p:=h
theorem yj {p:Prop} (h:p:=by simp [Ty.v,Ex.v,Ct.v,Co.v,Rf.v,Sm.v,Tb.v_cs,Sc.v,Md.v,Pb.v,Ls.v,-List.map_take,-List.map_drop,-List.map_append]):p:=h
theorem zw {p:Prop} (h:p:=by simp [fA,aO,aa.owns,Ty.v,Ex.v,Ct.v,Co.v,Rf.v,Sm.v,Tb.v_cs,Sc.v,Md.v,Pb.v,Ls.v,-List.map_take,-List.map_drop,-List.map_append]):p:=h
theorem BD {p:Prop} (h:p:=by simp [aa.frz,Dc.v,oZ,Ty.v,Ex.v,Ct.v,Co.v,Rf.v,Sm.v,Tb.v_cs,Sc.v,Md.v,Pb.v,Ls.v,-List.map_take,-List.map_drop,-List.map_append]):p:=h
theorem zd {p:Prop} (h:p:=by rw [← yw (by omega:k=(ms.getD i Md.zero).decls.length)] <;> (show _=_;kernel_rfl)):p:=h
theorem gv {p:Prop} (h:p:=by simp;omega):p:=h
theorem Cb {p:Prop} (h:p:=by rw [List.take_of_length_le (by omega:(wr8 low sto chk ms i k).length≤j)];rw [sE aq aq aq aq] <;> (show _=_;kernel_rfl)):p:=h
theorem A6 {p:Prop} (h:p:=by rw [List.take_of_length_le (by omega:(wr8 low sto chk ms i k).length≤j)];rw [yJ aq aq aq] <;> (show _=_;kernel_rfl)):p:=h
theorem BF {p:Prop} (h:p:=by rw [List.take_of_length_le (by omega:(wr8 low sto chk ms i k).length≤j)];rw [yF aq aq aq] <;> (show _=_;kernel_rfl)):p:=h
theorem Bu {p:Prop} (h:p:=by rw [CY (L:=(wr8 low sto chk ms i k)) (d:=[]) oq] <;> (show _=_;kernel_rfl)):p:=h
theorem Bd {p:Prop} (h:p:=by rw [rk (b:=false) oq (Bool.eq_false_iff.2 aq)] <;> (show _=_;kernel_rfl)):p:=h
theorem BN {p:Prop} (h:p:=by rw [List.take_zero,List.map_nil,List.append_nil] <;> (show _=_;kernel_rfl)):p:=h
theorem zy {p:Prop} (h:p:=by rw [AM aq] <;> (show _=_;kernel_rfl)):p:=h
theorem zT {p:Prop} (h:p:=by rw [Ck aq] <;> (show _=_;kernel_rfl)):p:=h
theorem uT {p:Prop} (h:p:=by exact Nat.zero_le _):p:=h
theorem rv {p:Prop} (h:p:=by simp [cW]):p:=h
theorem rH (low:List UInt8→Bool) (sto:Ty→Bool) (chk:Ex→Int) (sums:List Sm) (ms:List Md) (hf:gI sums low sto chk ms) (hr:th sums low sto chk ms) (hsum:ao cx 36 [.imm (ms.map Md.v)] (.imm (sums.map Sm.v))):ao cx 8 [.imm (ms.map Md.v)] (.tup [Sc.v (tx low sto chk ms sums),.imm ((srI low sto chk ms ms.length).ps.map Pb.v)]):=by
 have hmn:=hf.n
 refine aC (cx:=cx) 198 0 [(ResultVar.cell 2 28),(ResultVar.tmp 3)] Tryz.func8 rfl rfl rfl rfl rfl zq ?_
 show wpA cx 198 0 (at_ c8 []) _ _ _
 apply qZ [(0,.imm (ms.map Md.v))] []
 apply qW 2 [(0,.imm (ms.map Md.v)),(2,.ptr 0 0)] [.box [.full [],.full []]]
 apply qV 1
 refine bj (args:=[.imm (ms.map Md.v)]) kq kq kq kq (hsum) BD yj zw ?_
 apply qR 3 [(0,.imm (ms.map Md.v)),(2,.ptr 0 0),(4,.ptr 1 0)] [.box [.full [],.full []],.box [.imm (sums.map Sm.v),.full []]]
 refine cd 1 1 (cs:=[.imm (sums.map Sm.v),.full []]) (y:=.full []) [.imm (sums.map Sm.v),.imm (([]:List Tb).map Tb.v)] kq kq (by simp [aa.owns,aO]) (by simp [List.set,aa.frz,aZ]) ?_
 apply qZ [(0,.imm (ms.map Md.v)),(2,.ptr 0 0),(4,.ptr 1 0)] [.box [.full [],.full []],.box [.imm (sums.map Sm.v),.imm (([]:List Tb).map Tb.v)]]
 apply qU 1 [(0,.imm (ms.map Md.v)),(2,.ptr 0 0),(4,.ptr 1 0),(5,.full [])]
 refine lU 5 5 dq kq ?_
 apply qZ [(0,.imm (ms.map Md.v)),(2,.ptr 0 0),(4,.ptr 1 0),(5,.own 2 0 0)] [.box [.full [],.full []],.box [.imm (sums.map Sm.v),.imm (([]:List Tb).map Tb.v)],.arr 5 (([]:List (Pb)).map Pb.v) 0]
 apply qU 1 [(0,.imm (ms.map Md.v)),(2,.ptr 0 0),(4,.ptr 1 0),(5,.own 2 0 0),(6,.full [])]
 refine lU 6 1 dq kq ?_
 refine lV 3 [.box [.full [],.full []],.box [.imm (sums.map Sm.v),.imm (([]:List Tb).map Tb.v)],.arr 5 (([]:List (Pb)).map Pb.v) 0,.arr 1 (([]:List (List UInt8)).map aa.str) (([]:List (List UInt8)).map aa.str).length] rv ?_
 apply qZ [(0,.imm (ms.map Md.v)),(2,.ptr 0 0),(4,.ptr 1 0),(5,.own 2 0 0),(6,.own 3 0 0)] [.box [.full [],.full []],.box [.imm (sums.map Sm.v),.imm (([]:List Tb).map Tb.v)],.arr 5 (([]:List (Pb)).map Pb.v) 0,.arr 1 (([]:List (List UInt8)).map aa.str) (([]:List (List UInt8)).map aa.str).length]
 apply az
 apply qU 1 [(0,.imm (ms.map Md.v)),(2,.ptr 0 0),(4,.ptr 1 0),(5,.own 2 0 0),(6,.own 3 0 0),(7,.int .i64 0)]
 apply qB 0
 refine bn (σ:=Nat) (fun i=>[(0,.imm (ms.map Md.v)),(2,.ptr 0 0),(4,.ptr 1 0),(5,.own 2 0 (srI low sto chk ms i).ps.length),(6,.own 3 0 (srI low sto chk ms i).seen.length),(7,.int .i64 ((i:Nat):Int))]) (fun i=>[.box [.full [],.full []],.box [.imm (sums.map Sm.v),.imm ((srI low sto chk ms i).out.map Tb.v)],.arr 5 ((srI low sto chk ms i).ps.map Pb.v) 0,.arr 1 ((srI low sto chk ms i).seen.map aa.str) ((srI low sto chk ms i).seen.map aa.str).length]) (fun i=>i≤ms.length) (fun i=>ms.length - i) 0 kq uT ⟨⟨kq,kq,kq,(Eq.trans (b:=.own 2 0 0) kq kq),(Eq.trans (b:=.own 3 0 0) kq kq),kq,trivial⟩,by simp [aG,aa.bel],by simp,(Eq.trans (b:=[.box [.full [],.full []],.box [.imm (sums.map Sm.v),.imm (([]:List Tb).map Tb.v)],.arr 5 (([]:List (Pb)).map Pb.v) 0,.arr 1 (([]:List (List UInt8)).map aa.str) (([]:List (List UInt8)).map aa.str).length]) kq kq),by simp [ai.belO,av,aB,aa.bel,Ty.v,Ex.v,Ct.v,Co.v,Rf.v,Sm.v,Tb.v_cs,Sc.v,Md.v,Pb.v,Ls.v,-List.map_take,-List.map_drop,-List.map_append]⟩ ?_
 rintro i hi
 have hmi:=hf.m i
 apply az
 apply qV 2
 refine qy (aw (l:=ms) (enc:=Md.v) kq iw) ?_ ?_ ?_
 apply qR 1 [(0,.imm (ms.map Md.v)),(2,.ptr 0 0),(4,.ptr 1 0),(5,.own 2 0 (srI low sto chk ms i).ps.length),(6,.own 3 0 (srI low sto chk ms i).seen.length),(7,nI i),(28,.bool (decide (((i:Nat):Int)<((ms.length:Nat):Int))))] [.box [.full [],.full []],.box [.imm (sums.map Sm.v),.imm ((srI low sto chk ms i).out.map Tb.v)],.arr 5 ((srI low sto chk ms i).ps.map Pb.v) 0,.arr 1 ((srI low sto chk ms i).seen.map aa.str) ((srI low sto chk ms i).seen.map aa.str).length]
 by_cases hb1:((i:Nat):Int)<((ms.length:Nat):Int)
 apply qt (decide_eq_true hb1)
 apply qK
 apply qz [(0,.imm (ms.map Md.v)),(2,.ptr 0 0),(4,.ptr 1 0),(5,.own 2 0 (srI low sto chk ms i).ps.length),(6,.own 3 0 (srI low sto chk ms i).seen.length),(7,nI i)]
 apply az
 apply qB 1
 apply qU 1 [(0,.imm (ms.map Md.v)),(2,.ptr 0 0),(4,.ptr 1 0),(5,.own 2 0 (srI low sto chk ms i).ps.length),(6,.own 3 0 (srI low sto chk ms i).seen.length),(7,nI i),(8,.int .i64 0)]
 apply qB 2
 refine bn (σ:=Nat) (fun k=>[(0,.imm (ms.map Md.v)),(2,.ptr 0 0),(4,.ptr 1 0),(5,.own 2 0 (srD low sto chk ms i k).ps.length),(6,.own 3 0 (srD low sto chk ms i k).seen.length),(7,.int .i64 ((i:Nat):Int)),(8,.int .i64 ((k:Nat):Int))]) (fun k=>[.box [.full [],.full []],.box [.imm (sums.map Sm.v),.imm ((srD low sto chk ms i k).out.map Tb.v)],.arr 5 ((srD low sto chk ms i k).ps.map Pb.v) 0,.arr 1 ((srD low sto chk ms i k).seen.map aa.str) ((srD low sto chk ms i k).seen.map aa.str).length]) (fun k=>k≤(ms.getD i Md.zero).decls.length) (fun k=>(ms.getD i Md.zero).decls.length - k) 0 kq uT ⟨⟨kq,kq,kq,(Eq.trans (b:=.own 2 0 (srI low sto chk ms i).ps.length) kq kq),(Eq.trans (b:=.own 3 0 (srI low sto chk ms i).seen.length) kq kq),kq,kq,trivial⟩,by simp [aG,aa.bel],by simp,(Eq.trans (b:=[.box [.full [],.full []],.box [.imm (sums.map Sm.v),.imm ((srI low sto chk ms i).out.map Tb.v)],.arr 5 ((srI low sto chk ms i).ps.map Pb.v) 0,.arr 1 ((srI low sto chk ms i).seen.map aa.str) ((srI low sto chk ms i).seen.map aa.str).length]) kq kq),by simp [ai.belO,av,aB,aa.bel,Ty.v,Ex.v,Ct.v,Co.v,Rf.v,Sm.v,Tb.v_cs,Sc.v,Md.v,Pb.v,Ls.v,-List.map_take,-List.map_drop,-List.map_append]⟩ ?_
 rintro k hk
 have hps:=wB (i:=i) (k:=k) hf oq oq
 have hse:=i5 (i:=i) hf k
 have hsi:=ky hf i oq
 have ho8:=CZ (low:=low) (sto:=sto) (chk:=chk) (ms:=ms) i k
 apply az
 apply qV 3
 refine qy ((aA (k:=.i64) (l:=ms) (enc:=Md.v) (i:=((i:Nat):Int)) Md.zero kq iw mE (fun _=>rfl) oq oq).trans (congrArg (fun cs=>some (aa.pimm cs 0,_)) (dh (ms.getD i Md.zero)))) ?_ ?_ ?_
 apply qr 2
 refine qy (aw (l:=(ms.getD i Md.zero).decls) (enc:=Dc.v) kq dG) ?_ ?_ ?_
 apply qR 1 [(0,.imm (ms.map Md.v)),(2,.ptr 0 0),(4,.ptr 1 0),(5,.own 2 0 (srD low sto chk ms i k).ps.length),(6,.own 3 0 (srD low sto chk ms i k).seen.length),(7,nI i),(8,nI k),(38,.bool (decide (((k:Nat):Int)<(((ms.getD i Md.zero).decls.length:Nat):Int))))] [.box [.full [],.full []],.box [.imm (sums.map Sm.v),.imm ((srD low sto chk ms i k).out.map Tb.v)],.arr 5 ((srD low sto chk ms i k).ps.map Pb.v) 0,.arr 1 ((srD low sto chk ms i k).seen.map aa.str) ((srD low sto chk ms i k).seen.map aa.str).length]
 by_cases hb2:((k:Nat):Int)<(((ms.getD i Md.zero).decls.length:Nat):Int)
 apply qt (decide_eq_true hb2)
 apply qK
 apply qz [(0,.imm (ms.map Md.v)),(2,.ptr 0 0),(4,.ptr 1 0),(5,.own 2 0 (srD low sto chk ms i k).ps.length),(6,.own 3 0 (srD low sto chk ms i k).seen.length),(7,nI i),(8,nI k)]
 apply az
 apply qB 3
 apply qV 2
 refine qy ((aA (k:=.i64) (l:=ms) (enc:=Md.v) (i:=((i:Nat):Int)) Md.zero kq iw mE (fun _=>rfl) oq oq).trans (congrArg (fun cs=>some (aa.pimm cs 0,_)) (dh (ms.getD i Md.zero)))) ?_ ?_ ?_
 apply qr 3
 refine qy ((aA (k:=.i64) (l:=(ms.getD i Md.zero).decls) (enc:=Dc.v) (i:=((k:Nat):Int)) Dc.zero kq dG iV (fun _=>rfl) oq oq).trans (congrArg (fun cs=>some (aa.pimm cs 0,_)) (eR (dcl ms i k)))) ?_ ?_ ?_
 apply qR 3 [(0,.imm (ms.map Md.v)),(2,.ptr 0 0),(4,.ptr 1 0),(5,.own 2 0 (srD low sto chk ms i k).ps.length),(6,.own 3 0 (srD low sto chk ms i k).seen.length),(7,nI i),(8,nI k),(9,.ptr 4 0)] [.box [.full [],.full []],.box [.imm (sums.map Sm.v),.imm ((srD low sto chk ms i k).out.map Tb.v)],.arr 5 ((srD low sto chk ms i k).ps.map Pb.v) 0,.arr 1 ((srD low sto chk ms i k).seen.map aa.str) ((srD low sto chk ms i k).seen.map aa.str).length,.box (Dc.cs (dcl ms i k))]
 apply az
 apply qV 4
 by_cases hb3:((dcl ms i k).kind)=1
 refine qm [51,52] (x:=(((dcl ms i k).kind) != 1)) (bne_eq_false_iff_eq.2 hb3) ?_ ?_
 apply qr 3
 refine vZ (args:=[.own 3 0 (srD low sto chk ms i k).seen.length,.str (dcl ms i k).name]) (F:=[.box [.full [],.full []],.box [.imm (sums.map Sm.v),.imm ((srD low sto chk ms i k).out.map Tb.v)],.arr 5 ((srD low sto chk ms i k).ps.map Pb.v) 0,.arr 1 ((srD low sto chk ms i k).seen.map aa.str) ((srD low sto chk ms i k).seen.map aa.str).length,.box (Dc.cs (dcl ms i k))]) kq kq kq kq (mn ((srD low sto chk ms i k).seen) ((dcl ms i k).name) oq) [.box [.full [],.full []],.box [.imm (sums.map Sm.v),.imm ((srD low sto chk ms i k).out.map Tb.v)],.arr 5 ((srD low sto chk ms i k).ps.map Pb.v) 0,.arr 1 ((srD low sto chk ms i k).seen.map aa.str) ((srD low sto chk ms i k).seen.map aa.str).length,.box (Dc.cs (dcl ms i k))] kq (by simp [aZ,cW,aO,aa.frz,aa.owns]) yj (by simp [aZ,cW,aO,aa.frz,aa.owns]) ?_
 apply qR 2 [(0,.imm (ms.map Md.v)),(2,.ptr 0 0),(4,.ptr 1 0),(5,.own 2 0 (srD low sto chk ms i k).ps.length),(6,.own 3 0 (srD low sto chk ms i k).seen.length),(7,nI i),(8,nI k),(9,.ptr 4 0),(53,.own 3 0 (srD low sto chk ms i k).seen.length),(54,.ptr 4 1),(55,.str (dcl ms i k).name),(56,.int .i64 (aS ((srD low sto chk ms i k).seen) ((dcl ms i k).name))),(57,.bool (decide ((aS ((srD low sto chk ms i k).seen) ((dcl ms i k).name)) ≥ 0))),(58,.bool (decide ((aS ((srD low sto chk ms i k).seen) ((dcl ms i k).name)) ≥ 0)))] [.box [.full [],.full []],.box [.imm (sums.map Sm.v),.imm ((srD low sto chk ms i k).out.map Tb.v)],.arr 5 ((srD low sto chk ms i k).ps.map Pb.v) 0,.arr 1 ((srD low sto chk ms i k).seen.map aa.str) ((srD low sto chk ms i k).seen.map aa.str).length,.box (Dc.cs (dcl ms i k))]
 by_cases hb4:(aS ((srD low sto chk ms i k).seen) ((dcl ms i k).name)) ≥ 0
 apply qt (decide_eq_true hb4)
 refine a6 3 kq kq ?_
 apply af
 apply aE
 apply ab
 apply qz [(0,.imm (ms.map Md.v)),(2,.ptr 0 0),(4,.ptr 1 0),(5,.own 2 0 (srD low sto chk ms i k).ps.length),(6,.own 3 0 (srD low sto chk ms i k).seen.length),(7,nI i),(8,nI k),(53,.own 3 0 (srD low sto chk ms i k).seen.length),(54,.ptr 4 1),(55,.str (dcl ms i k).name),(56,.int .i64 (aS ((srD low sto chk ms i k).seen) ((dcl ms i k).name))),(57,.bool (decide ((aS ((srD low sto chk ms i k).seen) ((dcl ms i k).name)) ≥ 0)))]
 refine lV 3 [.box [.full [],.full []],.box [.imm (sums.map Sm.v),.imm ((srD low sto chk ms i k).out.map Tb.v)],.arr 5 ((srD low sto chk ms i k).ps.map Pb.v) 0,.arr 1 ((srD low sto chk ms i k).seen.map aa.str) ((srD low sto chk ms i k).seen.map aa.str).length,.box (Dc.cs (dcl ms i k))] rv ?_
 apply qz [(0,.imm (ms.map Md.v)),(2,.ptr 0 0),(4,.ptr 1 0),(5,.own 2 0 (srD low sto chk ms i k).ps.length),(6,.own 3 0 (srD low sto chk ms i k).seen.length),(7,nI i),(8,nI k),(53,.own 3 0 (srD low sto chk ms i k).seen.length),(54,.ptr 4 1),(55,.str (dcl ms i k).name),(56,.int .i64 (aS ((srD low sto chk ms i k).seen) ((dcl ms i k).name))),(57,.bool (decide ((aS ((srD low sto chk ms i k).seen) ((dcl ms i k).name)) ≥ 0)))]
 apply qo
 apply qr 1
 refine qy (aI (a:=((k:Nat):Int)) (b:=1) kq oq oq) ?_ ?_ ?_
 apply qr 1
 apply qe
 refine ab ⟨k+1,?_,?_,⟨⟨kq,kq,kq,(Eq.trans (b:=.own 2 0 (srD low sto chk ms i k).ps.length) kq zy),(Eq.trans (b:=.own 3 0 (srD low sto chk ms i k).seen.length) kq zy),kq,kq,trivial⟩,by simp [aG,aa.bel],by simp,(Eq.trans (b:=[.box [.full [],.full []],.box [.imm (sums.map Sm.v),.imm ((srD low sto chk ms i k).out.map Tb.v)],.arr 5 ((srD low sto chk ms i k).ps.map Pb.v) 0,.arr 1 ((srD low sto chk ms i k).seen.map aa.str) ((srD low sto chk ms i k).seen.map aa.str).length]) kq zy),by simp [ai.belO,av,aB,aa.bel,Ty.v,Ex.v,Ct.v,Co.v,Rf.v,Sm.v,Tb.v_cs,Sc.v,Md.v,Pb.v,Ls.v,-List.map_take,-List.map_drop,-List.map_append]⟩⟩
 · omega
 · omega
 iterate 9 kernel_rfl
 apply qf (decide_eq_false hb4)
 apply qK
 apply qz [(0,.imm (ms.map Md.v)),(2,.ptr 0 0),(4,.ptr 1 0),(5,.own 2 0 (srD low sto chk ms i k).ps.length),(6,.own 3 0 (srD low sto chk ms i k).seen.length),(7,nI i),(8,nI k),(9,.ptr 4 0),(53,.own 3 0 (srD low sto chk ms i k).seen.length),(54,.ptr 4 1),(55,.str (dcl ms i k).name),(56,.int .i64 (aS ((srD low sto chk ms i k).seen) ((dcl ms i k).name))),(57,.bool (decide ((aS ((srD low sto chk ms i k).seen) ((dcl ms i k).name)) ≥ 0)))]
 apply qV 4
 refine qY (cw (o:=3) (len:=((srD low sto chk ms i k).seen.length)) (l:=(srD low sto chk ms i k).seen) (xs:=[(dcl ms i k).name]) (enc:=aa.str) (sz:=1) (fr:=((srD low sto chk ms i k).seen.map aa.str).length) (x:=(.full [.str (dcl ms i k).name])) kq b5 ty9 b5 rfl kq rfl rfl kq ⟨by decide,by kernel_rfl⟩ (fun _=>rfl) gv gv) ?_ ?_ ?_
 apply qR 1 [(0,.imm (ms.map Md.v)),(2,.ptr 0 0),(4,.ptr 1 0),(5,.own 2 0 (srD low sto chk ms i k).ps.length),(6,.own 3 0 ((srD low sto chk ms i k).seen++[(dcl ms i k).name]).length),(7,nI i),(8,nI k),(9,.ptr 4 0),(53,.own 3 0 (srD low sto chk ms i k).seen.length),(54,.ptr 4 1),(55,.str (dcl ms i k).name),(56,.int .i64 (aS ((srD low sto chk ms i k).seen) ((dcl ms i k).name))),(57,.bool (decide ((aS ((srD low sto chk ms i k).seen) ((dcl ms i k).name)) ≥ 0)))] [.box [.full [],.full []],.box [.imm (sums.map Sm.v),.imm ((srD low sto chk ms i k).out.map Tb.v)],.arr 5 ((srD low sto chk ms i k).ps.map Pb.v) 0,.arr 1 (((srD low sto chk ms i k).seen++[(dcl ms i k).name]).map aa.str) ((srD low sto chk ms i k).seen.map aa.str).length,.box (Dc.cs (dcl ms i k))]
 apply qV 4
 refine bj (args:=[.imm (ms.map Md.v),.imm (sums.map Sm.v),.agg (Dc.cs (dcl ms i k))]) kq kq kq kq (oL (hr.d i oq k oq) hf.n hf.m hr.ok) BD yj zw ?_
 refine qR 5 [(0,.imm (ms.map Md.v)),(2,.ptr 0 0),(4,.ptr 1 0),(5,.own 2 0 (srD low sto chk ms i k).ps.length),(6,.own 3 0 ((srD low sto chk ms i k).seen++[(dcl ms i k).name]).length),(7,nI i),(8,nI k),(9,.ptr 4 0),(10,.imm ((wr low sto (fun e=>chk e==0) (fun n=>ag n (tmA ms)) (dcl ms i k)).1.map Ls.v)),(11,.bool ((wr low sto (fun e=>chk e==0) (fun n=>ag n (tmA ms)) (dcl ms i k)).2)),(53,.own 3 0 (srD low sto chk ms i k).seen.length),(54,.ptr 4 1),(55,.str (dcl ms i k).name),(56,.int .i64 (aS ((srD low sto chk ms i k).seen) ((dcl ms i k).name))),(57,.bool (decide ((aS ((srD low sto chk ms i k).seen) ((dcl ms i k).name)) ≥ 0)))] [.box [.full [],.full []],.box [.imm (sums.map Sm.v),.imm ((srD low sto chk ms i k).out.map Tb.v)],.arr 5 ((srD low sto chk ms i k).ps.map Pb.v) 0,.arr 1 (((srD low sto chk ms i k).seen++[(dcl ms i k).name]).map aa.str) ((srD low sto chk ms i k).seen.map aa.str).length,.box (Dc.cs (dcl ms i k))] ?_ ?_
 refine ov (σ:=Unit) (fun _=>[(0,.imm (ms.map Md.v)),(2,.ptr 0 0),(4,.ptr 1 0),(5,.own 2 0 (srD low sto chk ms i k).ps.length),(6,.own 3 0 ((srD low sto chk ms i k).seen++[(dcl ms i k).name]).length),(7,.int .i64 ((i:Nat):Int)),(8,.int .i64 ((k:Nat):Int)),(9,.ptr 4 0),(10,.imm ((wr8 low sto chk ms i k).map Ls.v)),(11,.bool ((wr low sto (fun e=>chk e==0) (fun n=>ag n (tmA ms)) (dcl ms i k)).2)),(53,.own 3 0 (srD low sto chk ms i k).seen.length),(54,.ptr 4 1),(55,.str (dcl ms i k).name),(56,.int .i64 (aS ((srD low sto chk ms i k).seen) ((dcl ms i k).name))),(57,.bool (decide ((aS ((srD low sto chk ms i k).seen) ((dcl ms i k).name)) ≥ 0)))]) (fun _=>[.box [.full [],.full []],.box [.imm (sums.map Sm.v),.imm ((srD low sto chk ms i k).out.map Tb.v)],.arr 5 ((srD low sto chk ms i k).ps.map Pb.v) 0,.arr 1 (((srD low sto chk ms i k).seen++[(dcl ms i k).name]).map aa.str) ((srD low sto chk ms i k).seen.map aa.str).length,.box (Dc.cs (dcl ms i k))]) (fun _=>True) kq ?_ ?_
 apply qV 1
 refine qy (gG (o:=3) (off:=0) (len:=(((srD low sto chk ms i k).seen++[(dcl ms i k).name]).length)) (sz:=1) (es:=(((srD low sto chk ms i k).seen++[(dcl ms i k).name]).map aa.str)) (fr:=((srD low sto chk ms i k).seen.map aa.str).length) kq b5 kq zq) ?_ ?_ ?_
 refine qR 1 [(0,.imm (ms.map Md.v)),(2,.ptr 0 0),(4,.ptr 1 0),(5,.own 2 0 (srD low sto chk ms i k).ps.length),(6,.own 3 0 ((srD low sto chk ms i k).seen++[(dcl ms i k).name]).length),(7,nI i),(8,nI k),(9,.ptr 4 0),(10,.imm ((wr low sto (fun e=>chk e==0) (fun n=>ag n (tmA ms)) (dcl ms i k)).1.map Ls.v)),(11,.bool ((wr low sto (fun e=>chk e==0) (fun n=>ag n (tmA ms)) (dcl ms i k)).2)),(53,.own 3 0 (srD low sto chk ms i k).seen.length),(54,.ptr 4 1),(55,.str (dcl ms i k).name),(56,.int .i64 (aS ((srD low sto chk ms i k).seen) ((dcl ms i k).name))),(57,.bool (decide ((aS ((srD low sto chk ms i k).seen) ((dcl ms i k).name)) ≥ 0))),(74,.bool (decide (((((srD low sto chk ms i k).seen++[(dcl ms i k).name]).length:Nat):Int) > 8)))] [.box [.full [],.full []],.box [.imm (sums.map Sm.v),.imm ((srD low sto chk ms i k).out.map Tb.v)],.arr 5 ((srD low sto chk ms i k).ps.map Pb.v) 0,.arr 1 (((srD low sto chk ms i k).seen++[(dcl ms i k).name]).map aa.str) ((srD low sto chk ms i k).seen.map aa.str).length,.box (Dc.cs (dcl ms i k))] ?_ ?_
 by_cases hb5:((((srD low sto chk ms i k).seen++[(dcl ms i k).name]).length:Nat):Int) > 8
 apply qt (decide_eq_true hb5)
 apply qo
 apply qr 2
 apply qe
 refine ab (fun d_ Q_ hk_=>?_)
 refine qz [(0,.imm (ms.map Md.v)),(2,.ptr 0 0),(4,.ptr 1 0),(5,.own 2 0 (srD low sto chk ms i k).ps.length),(6,.own 3 0 ((srD low sto chk ms i k).seen++[(dcl ms i k).name]).length),(7,nI i),(8,nI k),(9,.ptr 4 0),(10,.full [.full []]),(11,.bool ((wr low sto (fun e=>chk e==0) (fun n=>ag n (tmA ms)) (dcl ms i k)).2)),(53,.own 3 0 (srD low sto chk ms i k).seen.length),(54,.ptr 4 1),(55,.str (dcl ms i k).name),(56,.int .i64 (aS ((srD low sto chk ms i k).seen) ((dcl ms i k).name))),(57,.bool (decide ((aS ((srD low sto chk ms i k).seen) ((dcl ms i k).name)) ≥ 0)))] ?_ ?_
 refine Cp 10 (.full [.full []]) (.imm (([[]]:List (List (List UInt8))).map Ls.v)) kq (by simp [aa.owns,aO,Ls.v]) (by simp [aa.frz,aZ,Ls.v]) ?_
 refine hk_ _ _ ⟨(),?_,⟨⟨kq,kq,kq,kq,kq,kq,kq,kq,(Eq.trans (b:=.imm (([[]]:List (List (List UInt8))).map Ls.v)) kq (by rw [BQ aq])),kq,kq,kq,kq,kq,kq,trivial⟩,by simp [aG,aa.bel],by simp,kq,by simp [ai.belO,av,aB,aa.bel,Ty.v,Ex.v,Ct.v,Co.v,Rf.v,Sm.v,Tb.v_cs,Sc.v,Md.v,Pb.v,Ls.v,-List.map_take,-List.map_drop,-List.map_append]⟩⟩
 · trivial
 iterate 5 kernel_rfl
 apply qf (decide_eq_false hb5)
 apply qk
 refine ab (fun d_ Q_ hk_=>?_)
 refine qz [(0,.imm (ms.map Md.v)),(2,.ptr 0 0),(4,.ptr 1 0),(5,.own 2 0 (srD low sto chk ms i k).ps.length),(6,.own 3 0 ((srD low sto chk ms i k).seen++[(dcl ms i k).name]).length),(7,nI i),(8,nI k),(9,.ptr 4 0),(10,.imm ((wr low sto (fun e=>chk e==0) (fun n=>ag n (tmA ms)) (dcl ms i k)).1.map Ls.v)),(11,.bool ((wr low sto (fun e=>chk e==0) (fun n=>ag n (tmA ms)) (dcl ms i k)).2)),(53,.own 3 0 (srD low sto chk ms i k).seen.length),(54,.ptr 4 1),(55,.str (dcl ms i k).name),(56,.int .i64 (aS ((srD low sto chk ms i k).seen) ((dcl ms i k).name))),(57,.bool (decide ((aS ((srD low sto chk ms i k).seen) ((dcl ms i k).name)) ≥ 0)))] ?_ ?_
 refine hk_ _ _ ⟨(),?_,⟨⟨kq,kq,kq,kq,kq,kq,kq,kq,(Eq.trans (b:=.imm ((wr low sto (fun e=>chk e==0) (fun n=>ag n (tmA ms)) (dcl ms i k)).1.map Ls.v)) kq (by rw [B0 aq])),kq,kq,kq,kq,kq,kq,trivial⟩,by simp [aG,aa.bel],by simp,kq,by simp [ai.belO,av,aB,aa.bel,Ty.v,Ex.v,Ct.v,Co.v,Rf.v,Sm.v,Tb.v_cs,Sc.v,Md.v,Pb.v,Ls.v,-List.map_take,-List.map_drop,-List.map_append]⟩⟩
 · trivial
 iterate 7 kernel_rfl
 rintro _ _
 apply az
 refine qU 1 [(0,.imm (ms.map Md.v)),(2,.ptr 0 0),(4,.ptr 1 0),(5,.own 2 0 (srD low sto chk ms i k).ps.length),(6,.own 3 0 ((srD low sto chk ms i k).seen++[(dcl ms i k).name]).length),(7,nI i),(8,nI k),(9,.ptr 4 0),(10,.imm ((wr8 low sto chk ms i k).map Ls.v)),(11,.bool ((wr low sto (fun e=>chk e==0) (fun n=>ag n (tmA ms)) (dcl ms i k)).2)),(12,.int .i64 0),(53,.own 3 0 (srD low sto chk ms i k).seen.length),(54,.ptr 4 1),(55,.str (dcl ms i k).name),(56,.int .i64 (aS ((srD low sto chk ms i k).seen) ((dcl ms i k).name))),(57,.bool (decide ((aS ((srD low sto chk ms i k).seen) ((dcl ms i k).name)) ≥ 0)))] ?_ ?_
 apply qB 4
 refine bn (σ:=Nat) (fun j=>[(0,.imm (ms.map Md.v)),(2,.ptr 0 0),(4,.ptr 1 0),(5,.own 2 0 ((srD low sto chk ms i k).ps++((wr8 low sto chk ms i k).take j).map (bg (ms.getD i Md.zero).name (dcl ms i k))).length),(6,.own 3 0 ((srD low sto chk ms i k).seen++[(dcl ms i k).name]).length),(7,.int .i64 ((i:Nat):Int)),(8,.int .i64 ((k:Nat):Int)),(9,.ptr 4 0),(10,.imm ((wr8 low sto chk ms i k).map Ls.v)),(11,.bool ((wr low sto (fun e=>chk e==0) (fun n=>ag n (tmA ms)) (dcl ms i k)).2)),(12,.int .i64 ((j:Nat):Int)),(53,.own 3 0 (srD low sto chk ms i k).seen.length),(54,.ptr 4 1),(55,.str (dcl ms i k).name),(56,.int .i64 (aS ((srD low sto chk ms i k).seen) ((dcl ms i k).name))),(57,.bool (decide ((aS ((srD low sto chk ms i k).seen) ((dcl ms i k).name)) ≥ 0)))]) (fun j=>[.box [.full [],.full []],.box [.imm (sums.map Sm.v),.imm ((srD low sto chk ms i k).out.map Tb.v)],.arr 5 (((srD low sto chk ms i k).ps++((wr8 low sto chk ms i k).take j).map (bg (ms.getD i Md.zero).name (dcl ms i k))).map Pb.v) 0,.arr 1 (((srD low sto chk ms i k).seen++[(dcl ms i k).name]).map aa.str) ((srD low sto chk ms i k).seen.map aa.str).length,.box (Dc.cs (dcl ms i k))]) (fun j=>j≤(wr8 low sto chk ms i k).length) (fun j=>(wr8 low sto chk ms i k).length - j) 0 kq uT ⟨⟨kq,kq,kq,(Eq.trans (b:=.own 2 0 (srD low sto chk ms i k).ps.length) kq BN),kq,kq,kq,kq,kq,kq,kq,kq,kq,kq,kq,kq,trivial⟩,by simp [aG,aa.bel],by simp,(Eq.trans (b:=[.box [.full [],.full []],.box [.imm (sums.map Sm.v),.imm ((srD low sto chk ms i k).out.map Tb.v)],.arr 5 ((srD low sto chk ms i k).ps.map Pb.v) 0,.arr 1 (((srD low sto chk ms i k).seen++[(dcl ms i k).name]).map aa.str) ((srD low sto chk ms i k).seen.map aa.str).length,.box (Dc.cs (dcl ms i k))]) kq BN),by simp [ai.belO,av,aB,aa.bel,Ty.v,Ex.v,Ct.v,Co.v,Rf.v,Sm.v,Tb.v_cs,Sc.v,Md.v,Pb.v,Ls.v,-List.map_take,-List.map_drop,-List.map_append]⟩ ?_
 rintro j hj
 have hw8:=xJ (low:=low) (sto:=sto) (chk:=chk) (i:=i) (k:=k) rfl (hr.d i oq k oq).ok.t
 have hna:-1000000000000≤(dcl ms i k).na∧(dcl ms i k).na≤1000000000000:=(hr.d i oq k oq).ok.a
 have hnn:(dcl ms i k).name.length<1000000000:=(hr.d i oq k oq).ok.n
 apply az
 apply qV 2
 refine qy (aw (l:=(wr8 low sto chk ms i k)) (enc:=Ls.v) kq eb) ?_ ?_ ?_
 refine qR 1 [(0,.imm (ms.map Md.v)),(2,.ptr 0 0),(4,.ptr 1 0),(5,.own 2 0 ((srD low sto chk ms i k).ps++((wr8 low sto chk ms i k).take j).map (bg (ms.getD i Md.zero).name (dcl ms i k))).length),(6,.own 3 0 ((srD low sto chk ms i k).seen++[(dcl ms i k).name]).length),(7,nI i),(8,nI k),(9,.ptr 4 0),(10,.imm ((wr8 low sto chk ms i k).map Ls.v)),(11,.bool ((wr low sto (fun e=>chk e==0) (fun n=>ag n (tmA ms)) (dcl ms i k)).2)),(12,nI j),(53,.own 3 0 (srD low sto chk ms i k).seen.length),(54,.ptr 4 1),(55,.str (dcl ms i k).name),(56,.int .i64 (aS ((srD low sto chk ms i k).seen) ((dcl ms i k).name))),(57,.bool (decide ((aS ((srD low sto chk ms i k).seen) ((dcl ms i k).name)) ≥ 0))),(79,.bool (decide (((j:Nat):Int)<(((wr8 low sto chk ms i k).length:Nat):Int))))] [.box [.full [],.full []],.box [.imm (sums.map Sm.v),.imm ((srD low sto chk ms i k).out.map Tb.v)],.arr 5 (((srD low sto chk ms i k).ps++((wr8 low sto chk ms i k).take j).map (bg (ms.getD i Md.zero).name (dcl ms i k))).map Pb.v) 0,.arr 1 (((srD low sto chk ms i k).seen++[(dcl ms i k).name]).map aa.str) ((srD low sto chk ms i k).seen.map aa.str).length,.box (Dc.cs (dcl ms i k))] ?_ ?_
 by_cases hb6:((j:Nat):Int)<(((wr8 low sto chk ms i k).length:Nat):Int)
 apply qt (decide_eq_true hb6)
 apply qK
 refine qz [(0,.imm (ms.map Md.v)),(2,.ptr 0 0),(4,.ptr 1 0),(5,.own 2 0 ((srD low sto chk ms i k).ps++((wr8 low sto chk ms i k).take j).map (bg (ms.getD i Md.zero).name (dcl ms i k))).length),(6,.own 3 0 ((srD low sto chk ms i k).seen++[(dcl ms i k).name]).length),(7,nI i),(8,nI k),(9,.ptr 4 0),(10,.imm ((wr8 low sto chk ms i k).map Ls.v)),(11,.bool ((wr low sto (fun e=>chk e==0) (fun n=>ag n (tmA ms)) (dcl ms i k)).2)),(12,nI j),(53,.own 3 0 (srD low sto chk ms i k).seen.length),(54,.ptr 4 1),(55,.str (dcl ms i k).name),(56,.int .i64 (aS ((srD low sto chk ms i k).seen) ((dcl ms i k).name))),(57,.bool (decide ((aS ((srD low sto chk ms i k).seen) ((dcl ms i k).name)) ≥ 0)))] ?_ ?_
 apply az
 apply qB 5
 refine b6 cxM kq (dL ap) (aU ?_)
 apply qu 3
 refine qd ((aA (k:=.i64) (l:=ms) (enc:=Md.v) (i:=((i:Nat):Int)) Md.zero kq iw mE (fun _=>rfl) oq oq).trans (congrArg (fun cs=>some (aa.pimm cs 0,_)) (dh (ms.getD i Md.zero)))) ?_ ?_ ?_ ?_
 apply qu 9
 refine qd (aI (a:=((dcl ms i k).na)) (b:=(((dcl ms i k).name.length:Nat):Int)) kq oq oq) ?_ ?_ ?_ ?_
 apply qu 2
 refine qd ((aA (k:=.i64) (l:=(wr8 low sto chk ms i k)) (enc:=Ls.v) (i:=((j:Nat):Int)) ([]:List (List UInt8)) kq eb b5 (fun _=>rfl) oq oq).trans (congrArg (fun cs=>some (aa.pimm cs 0,_)) (uX ((wr8 low sto chk ms i k).getD j ([]:List (List UInt8)))))) ?_ ?_ ?_ ?_
 apply qu 3
 refine qD (cw (o:=2) (len:=(((srD low sto chk ms i k).ps++((wr8 low sto chk ms i k).take j).map (bg (ms.getD i Md.zero).name (dcl ms i k))).length)) (l:=((srD low sto chk ms i k).ps++((wr8 low sto chk ms i k).take j).map (bg (ms.getD i Md.zero).name (dcl ms i k)))) (xs:=[(Pb.mk ((ms.getD i Md.zero).name) ((dcl ms i k).na) (((dcl ms i k).na)+(((dcl ms i k).name.length:Nat):Int)) 8 ((wr8 low sto chk ms i k).getD j ([]:List (List UInt8))))]) (enc:=Pb.v) (sz:=5) (fr:=0) (x:=(.full [.agg [.str (ms.getD i Md.zero).name,.int .i64 ((dcl ms i k).na),.int .i64 (((dcl ms i k).na)+(((dcl ms i k).name.length:Nat):Int)),.int .i64 8,.imm (((wr8 low sto chk ms i k).getD j ([]:List (List UInt8))).map aa.str)]])) kq gY kO gY rfl kq rfl rfl kq ⟨by decide,by kernel_rfl⟩ (fun _=>rfl) gv gv) ?_ ?_ ?_ ?_
 apply qu 1
 refine bG kq ⟨kq,?_⟩
 apply ah
 apply ab
 refine qZ [(0,.imm (ms.map Md.v)),(2,.ptr 0 0),(4,.ptr 1 0),(5,.own 2 0 (((srD low sto chk ms i k).ps++((wr8 low sto chk ms i k).take j).map (bg (ms.getD i Md.zero).name (dcl ms i k)))++[(Pb.mk ((ms.getD i Md.zero).name) ((dcl ms i k).na) (((dcl ms i k).na)+(((dcl ms i k).name.length:Nat):Int)) 8 ((wr8 low sto chk ms i k).getD j ([]:List (List UInt8))))]).length),(6,.own 3 0 ((srD low sto chk ms i k).seen++[(dcl ms i k).name]).length),(7,nI i),(8,nI k),(9,.ptr 4 0),(10,.imm ((wr8 low sto chk ms i k).map Ls.v)),(11,.bool ((wr low sto (fun e=>chk e==0) (fun n=>ag n (tmA ms)) (dcl ms i k)).2)),(12,nI j),(53,.own 3 0 (srD low sto chk ms i k).seen.length),(54,.ptr 4 1),(55,.str (dcl ms i k).name),(56,.int .i64 (aS ((srD low sto chk ms i k).seen) ((dcl ms i k).name))),(57,.bool (decide ((aS ((srD low sto chk ms i k).seen) ((dcl ms i k).name)) ≥ 0)))] [.box [.full [],.full []],.box [.imm (sums.map Sm.v),.imm ((srD low sto chk ms i k).out.map Tb.v)],.arr 5 ((((srD low sto chk ms i k).ps++((wr8 low sto chk ms i k).take j).map (bg (ms.getD i Md.zero).name (dcl ms i k)))++[(Pb.mk ((ms.getD i Md.zero).name) ((dcl ms i k).na) (((dcl ms i k).na)+(((dcl ms i k).name.length:Nat):Int)) 8 ((wr8 low sto chk ms i k).getD j ([]:List (List UInt8))))]).map Pb.v) 0,.arr 1 (((srD low sto chk ms i k).seen++[(dcl ms i k).name]).map aa.str) ((srD low sto chk ms i k).seen.map aa.str).length,.box (Dc.cs (dcl ms i k))] ?_ ?_
 apply qo
 apply qr 1
 refine qy (aI (a:=((j:Nat):Int)) (b:=1) kq oq oq) ?_ ?_ ?_
 apply qr 1
 apply qe
 refine ab ⟨j+1,?_,?_,⟨⟨kq,kq,kq,(Eq.trans (b:=.own 2 0 (((srD low sto chk ms i k).ps++((wr8 low sto chk ms i k).take j).map (bg (ms.getD i Md.zero).name (dcl ms i k)))++[(Pb.mk ((ms.getD i Md.zero).name) ((dcl ms i k).na) (((dcl ms i k).na)+(((dcl ms i k).name.length:Nat):Int)) 8 ((wr8 low sto chk ms i k).getD j ([]:List (List UInt8))))]).length) kq Bu),kq,kq,kq,kq,kq,kq,kq,kq,kq,kq,kq,kq,trivial⟩,by simp [aG,aa.bel],by simp,(Eq.trans (b:=[.box [.full [],.full []],.box [.imm (sums.map Sm.v),.imm ((srD low sto chk ms i k).out.map Tb.v)],.arr 5 ((((srD low sto chk ms i k).ps++((wr8 low sto chk ms i k).take j).map (bg (ms.getD i Md.zero).name (dcl ms i k)))++[(Pb.mk ((ms.getD i Md.zero).name) ((dcl ms i k).na) (((dcl ms i k).na)+(((dcl ms i k).name.length:Nat):Int)) 8 ((wr8 low sto chk ms i k).getD j ([]:List (List UInt8))))]).map Pb.v) 0,.arr 1 (((srD low sto chk ms i k).seen++[(dcl ms i k).name]).map aa.str) ((srD low sto chk ms i k).seen.map aa.str).length,.box (Dc.cs (dcl ms i k))]) kq Bu),by simp [ai.belO,av,aB,aa.bel,Ty.v,Ex.v,Ct.v,Co.v,Rf.v,Sm.v,Tb.v_cs,Sc.v,Md.v,Pb.v,Ls.v,-List.map_take,-List.map_drop,-List.map_append]⟩⟩
 · omega
 · omega
 iterate 30 kernel_rfl
 apply qf (decide_eq_false hb6)
 refine a6 4 kq kq ?_
 apply af
 apply af
 apply aE
 apply ab
 refine qz [(0,.imm (ms.map Md.v)),(2,.ptr 0 0),(4,.ptr 1 0),(5,.own 2 0 ((srD low sto chk ms i k).ps++((wr8 low sto chk ms i k).take j).map (bg (ms.getD i Md.zero).name (dcl ms i k))).length),(6,.own 3 0 ((srD low sto chk ms i k).seen++[(dcl ms i k).name]).length),(7,nI i),(8,nI k),(9,.ptr 4 0),(10,.imm ((wr8 low sto chk ms i k).map Ls.v)),(11,.bool ((wr low sto (fun e=>chk e==0) (fun n=>ag n (tmA ms)) (dcl ms i k)).2)),(53,.own 3 0 (srD low sto chk ms i k).seen.length),(54,.ptr 4 1),(55,.str (dcl ms i k).name),(56,.int .i64 (aS ((srD low sto chk ms i k).seen) ((dcl ms i k).name))),(57,.bool (decide ((aS ((srD low sto chk ms i k).seen) ((dcl ms i k).name)) ≥ 0)))] ?_ ?_
 apply az
 apply qV 1
 refine qy (aw (l:=(wr8 low sto chk ms i k)) (enc:=Ls.v) kq eb) ?_ ?_ ?_
 apply qr 2
 by_cases hb7:(((wr8 low sto chk ms i k).length:Nat):Int) > 0
 apply qm [105,106] (decide_eq_true hb7)
 apply qR 2 [(0,.imm (ms.map Md.v)),(2,.ptr 0 0),(4,.ptr 1 0),(5,.own 2 0 ((srD low sto chk ms i k).ps++((wr8 low sto chk ms i k).take j).map (bg (ms.getD i Md.zero).name (dcl ms i k))).length),(6,.own 3 0 ((srD low sto chk ms i k).seen++[(dcl ms i k).name]).length),(7,nI i),(8,nI k),(9,.ptr 4 0),(53,.own 3 0 (srD low sto chk ms i k).seen.length),(54,.ptr 4 1),(55,.str (dcl ms i k).name),(56,.int .i64 (aS ((srD low sto chk ms i k).seen) ((dcl ms i k).name))),(57,.bool (decide ((aS ((srD low sto chk ms i k).seen) ((dcl ms i k).name)) ≥ 0))),(107,.tup []),(108,.bool true)] [.box [.full [],.full []],.box [.imm (sums.map Sm.v),.imm ((srD low sto chk ms i k).out.map Tb.v)],.arr 5 (((srD low sto chk ms i k).ps++((wr8 low sto chk ms i k).take j).map (bg (ms.getD i Md.zero).name (dcl ms i k))).map Pb.v) 0,.arr 1 (((srD low sto chk ms i k).seen++[(dcl ms i k).name]).map aa.str) ((srD low sto chk ms i k).seen.map aa.str).length,.box (Dc.cs (dcl ms i k))]
 refine cU kq kq ?_
 refine a6 3 kq kq ?_
 apply af
 apply aE
 apply ab
 apply qz [(0,.imm (ms.map Md.v)),(2,.ptr 0 0),(4,.ptr 1 0),(5,.own 2 0 ((srD low sto chk ms i k).ps++((wr8 low sto chk ms i k).take j).map (bg (ms.getD i Md.zero).name (dcl ms i k))).length),(6,.own 3 0 ((srD low sto chk ms i k).seen++[(dcl ms i k).name]).length),(7,nI i),(8,nI k),(53,.own 3 0 (srD low sto chk ms i k).seen.length),(54,.ptr 4 1),(55,.str (dcl ms i k).name),(56,.int .i64 (aS ((srD low sto chk ms i k).seen) ((dcl ms i k).name))),(57,.bool (decide ((aS ((srD low sto chk ms i k).seen) ((dcl ms i k).name)) ≥ 0))),(107,.tup [])]
 refine lV 3 [.box [.full [],.full []],.box [.imm (sums.map Sm.v),.imm ((srD low sto chk ms i k).out.map Tb.v)],.arr 5 (((srD low sto chk ms i k).ps++((wr8 low sto chk ms i k).take j).map (bg (ms.getD i Md.zero).name (dcl ms i k))).map Pb.v) 0,.arr 1 (((srD low sto chk ms i k).seen++[(dcl ms i k).name]).map aa.str) (((srD low sto chk ms i k).seen++[(dcl ms i k).name]).map aa.str).length,.box (Dc.cs (dcl ms i k))] rv ?_
 apply qZ [(0,.imm (ms.map Md.v)),(2,.ptr 0 0),(4,.ptr 1 0),(5,.own 2 0 ((srD low sto chk ms i k).ps++((wr8 low sto chk ms i k).take j).map (bg (ms.getD i Md.zero).name (dcl ms i k))).length),(6,.own 3 0 ((srD low sto chk ms i k).seen++[(dcl ms i k).name]).length),(7,nI i),(8,nI k),(53,.own 3 0 (srD low sto chk ms i k).seen.length),(54,.ptr 4 1),(55,.str (dcl ms i k).name),(56,.int .i64 (aS ((srD low sto chk ms i k).seen) ((dcl ms i k).name))),(57,.bool (decide ((aS ((srD low sto chk ms i k).seen) ((dcl ms i k).name)) ≥ 0))),(107,.tup [])] [.box [.full [],.full []],.box [.imm (sums.map Sm.v),.imm ((srD low sto chk ms i k).out.map Tb.v)],.arr 5 (((srD low sto chk ms i k).ps++((wr8 low sto chk ms i k).take j).map (bg (ms.getD i Md.zero).name (dcl ms i k))).map Pb.v) 0,.arr 1 (((srD low sto chk ms i k).seen++[(dcl ms i k).name]).map aa.str) (((srD low sto chk ms i k).seen++[(dcl ms i k).name]).map aa.str).length,.box (Dc.cs (dcl ms i k))]
 apply qo
 apply qr 1
 refine qy (aI (a:=((k:Nat):Int)) (b:=1) kq oq oq) ?_ ?_ ?_
 apply qr 1
 apply qe
 refine ab ⟨k+1,?_,?_,⟨⟨kq,kq,kq,(Eq.trans (b:=.own 2 0 ((srD low sto chk ms i k).ps++((wr8 low sto chk ms i k).take j).map (bg (ms.getD i Md.zero).name (dcl ms i k))).length) kq A6),(Eq.trans (b:=.own 3 0 ((srD low sto chk ms i k).seen++[(dcl ms i k).name]).length) kq (by rw [yJ aq aq aq] <;> (show _=_;kernel_rfl))),kq,kq,trivial⟩,by simp [aG,aa.bel],by simp,(Eq.trans (b:=[.box [.full [],.full []],.box [.imm (sums.map Sm.v),.imm ((srD low sto chk ms i k).out.map Tb.v)],.arr 5 (((srD low sto chk ms i k).ps++((wr8 low sto chk ms i k).take j).map (bg (ms.getD i Md.zero).name (dcl ms i k))).map Pb.v) 0,.arr 1 (((srD low sto chk ms i k).seen++[(dcl ms i k).name]).map aa.str) (((srD low sto chk ms i k).seen++[(dcl ms i k).name]).map aa.str).length]) kq A6),by simp [ai.belO,av,aB,aa.bel,Ty.v,Ex.v,Ct.v,Co.v,Rf.v,Sm.v,Tb.v_cs,Sc.v,Md.v,Pb.v,Ls.v,-List.map_take,-List.map_drop,-List.map_append]⟩⟩
 · omega
 · omega
 iterate 10 kernel_rfl
 apply qm [105,106] (decide_eq_false hb7)
 refine qR 2 [(0,.imm (ms.map Md.v)),(2,.ptr 0 0),(4,.ptr 1 0),(5,.own 2 0 ((srD low sto chk ms i k).ps++((wr8 low sto chk ms i k).take j).map (bg (ms.getD i Md.zero).name (dcl ms i k))).length),(6,.own 3 0 ((srD low sto chk ms i k).seen++[(dcl ms i k).name]).length),(7,nI i),(8,nI k),(9,.ptr 4 0),(53,.own 3 0 (srD low sto chk ms i k).seen.length),(54,.ptr 4 1),(55,.str (dcl ms i k).name),(56,.int .i64 (aS ((srD low sto chk ms i k).seen) ((dcl ms i k).name))),(57,.bool (decide ((aS ((srD low sto chk ms i k).seen) ((dcl ms i k).name)) ≥ 0))),(107,.bool ((wr low sto (fun e=>chk e==0) (fun n=>ag n (tmA ms)) (dcl ms i k)).2)),(108,.bool ((wr low sto (fun e=>chk e==0) (fun n=>ag n (tmA ms)) (dcl ms i k)).2))] [.box [.full [],.full []],.box [.imm (sums.map Sm.v),.imm ((srD low sto chk ms i k).out.map Tb.v)],.arr 5 (((srD low sto chk ms i k).ps++((wr8 low sto chk ms i k).take j).map (bg (ms.getD i Md.zero).name (dcl ms i k))).map Pb.v) 0,.arr 1 (((srD low sto chk ms i k).seen++[(dcl ms i k).name]).map aa.str) ((srD low sto chk ms i k).seen.map aa.str).length,.box (Dc.cs (dcl ms i k))] ?_ ?_
 by_cases hb8:((wr low sto (fun e=>chk e==0) (fun n=>ag n (tmA ms)) (dcl ms i k)).2)=true
 apply qt (hb8)
 refine a6 3 kq kq ?_
 apply af
 apply aE
 apply ab
 refine qz [(0,.imm (ms.map Md.v)),(2,.ptr 0 0),(4,.ptr 1 0),(5,.own 2 0 ((srD low sto chk ms i k).ps++((wr8 low sto chk ms i k).take j).map (bg (ms.getD i Md.zero).name (dcl ms i k))).length),(6,.own 3 0 ((srD low sto chk ms i k).seen++[(dcl ms i k).name]).length),(7,nI i),(8,nI k),(53,.own 3 0 (srD low sto chk ms i k).seen.length),(54,.ptr 4 1),(55,.str (dcl ms i k).name),(56,.int .i64 (aS ((srD low sto chk ms i k).seen) ((dcl ms i k).name))),(57,.bool (decide ((aS ((srD low sto chk ms i k).seen) ((dcl ms i k).name)) ≥ 0))),(107,.bool ((wr low sto (fun e=>chk e==0) (fun n=>ag n (tmA ms)) (dcl ms i k)).2))] ?_ ?_
 refine lV 3 [.box [.full [],.full []],.box [.imm (sums.map Sm.v),.imm ((srD low sto chk ms i k).out.map Tb.v)],.arr 5 (((srD low sto chk ms i k).ps++((wr8 low sto chk ms i k).take j).map (bg (ms.getD i Md.zero).name (dcl ms i k))).map Pb.v) 0,.arr 1 (((srD low sto chk ms i k).seen++[(dcl ms i k).name]).map aa.str) (((srD low sto chk ms i k).seen++[(dcl ms i k).name]).map aa.str).length,.box (Dc.cs (dcl ms i k))] rv ?_
 refine qZ [(0,.imm (ms.map Md.v)),(2,.ptr 0 0),(4,.ptr 1 0),(5,.own 2 0 ((srD low sto chk ms i k).ps++((wr8 low sto chk ms i k).take j).map (bg (ms.getD i Md.zero).name (dcl ms i k))).length),(6,.own 3 0 ((srD low sto chk ms i k).seen++[(dcl ms i k).name]).length),(7,nI i),(8,nI k),(53,.own 3 0 (srD low sto chk ms i k).seen.length),(54,.ptr 4 1),(55,.str (dcl ms i k).name),(56,.int .i64 (aS ((srD low sto chk ms i k).seen) ((dcl ms i k).name))),(57,.bool (decide ((aS ((srD low sto chk ms i k).seen) ((dcl ms i k).name)) ≥ 0))),(107,.bool ((wr low sto (fun e=>chk e==0) (fun n=>ag n (tmA ms)) (dcl ms i k)).2))] [.box [.full [],.full []],.box [.imm (sums.map Sm.v),.imm ((srD low sto chk ms i k).out.map Tb.v)],.arr 5 (((srD low sto chk ms i k).ps++((wr8 low sto chk ms i k).take j).map (bg (ms.getD i Md.zero).name (dcl ms i k))).map Pb.v) 0,.arr 1 (((srD low sto chk ms i k).seen++[(dcl ms i k).name]).map aa.str) (((srD low sto chk ms i k).seen++[(dcl ms i k).name]).map aa.str).length,.box (Dc.cs (dcl ms i k))] ?_ ?_
 apply qo
 apply qr 1
 refine qy (aI (a:=((k:Nat):Int)) (b:=1) kq oq oq) ?_ ?_ ?_
 apply qr 1
 apply qe
 refine ab ⟨k+1,?_,?_,⟨⟨kq,kq,kq,(Eq.trans (b:=.own 2 0 ((srD low sto chk ms i k).ps++((wr8 low sto chk ms i k).take j).map (bg (ms.getD i Md.zero).name (dcl ms i k))).length) kq BF),(Eq.trans (b:=.own 3 0 ((srD low sto chk ms i k).seen++[(dcl ms i k).name]).length) kq (by rw [yF aq aq aq] <;> (show _=_;kernel_rfl))),kq,kq,trivial⟩,by simp [aG,aa.bel],by simp,(Eq.trans (b:=[.box [.full [],.full []],.box [.imm (sums.map Sm.v),.imm ((srD low sto chk ms i k).out.map Tb.v)],.arr 5 (((srD low sto chk ms i k).ps++((wr8 low sto chk ms i k).take j).map (bg (ms.getD i Md.zero).name (dcl ms i k))).map Pb.v) 0,.arr 1 (((srD low sto chk ms i k).seen++[(dcl ms i k).name]).map aa.str) (((srD low sto chk ms i k).seen++[(dcl ms i k).name]).map aa.str).length]) kq BF),by simp [ai.belO,av,aB,aa.bel,Ty.v,Ex.v,Ct.v,Co.v,Rf.v,Sm.v,Tb.v_cs,Sc.v,Md.v,Pb.v,Ls.v,-List.map_take,-List.map_drop,-List.map_append]⟩⟩
 · omega
 · omega
 iterate 9 kernel_rfl
 apply qf (Bool.eq_false_iff.2 hb8)
 apply qK
 refine qz [(0,.imm (ms.map Md.v)),(2,.ptr 0 0),(4,.ptr 1 0),(5,.own 2 0 ((srD low sto chk ms i k).ps++((wr8 low sto chk ms i k).take j).map (bg (ms.getD i Md.zero).name (dcl ms i k))).length),(6,.own 3 0 ((srD low sto chk ms i k).seen++[(dcl ms i k).name]).length),(7,nI i),(8,nI k),(9,.ptr 4 0),(53,.own 3 0 (srD low sto chk ms i k).seen.length),(54,.ptr 4 1),(55,.str (dcl ms i k).name),(56,.int .i64 (aS ((srD low sto chk ms i k).seen) ((dcl ms i k).name))),(57,.bool (decide ((aS ((srD low sto chk ms i k).seen) ((dcl ms i k).name)) ≥ 0))),(107,.bool ((wr low sto (fun e=>chk e==0) (fun n=>ag n (tmA ms)) (dcl ms i k)).2))] ?_ ?_
 refine qW 4 [(0,.imm (ms.map Md.v)),(2,.ptr 0 0),(4,.ptr 1 0),(5,.own 2 0 ((srD low sto chk ms i k).ps++((wr8 low sto chk ms i k).take j).map (bg (ms.getD i Md.zero).name (dcl ms i k))).length),(6,.own 3 0 ((srD low sto chk ms i k).seen++[(dcl ms i k).name]).length),(7,nI i),(8,nI k),(9,.ptr 4 0),(13,.ptr 5 0),(53,.own 3 0 (srD low sto chk ms i k).seen.length),(54,.ptr 4 1),(55,.str (dcl ms i k).name),(56,.int .i64 (aS ((srD low sto chk ms i k).seen) ((dcl ms i k).name))),(57,.bool (decide ((aS ((srD low sto chk ms i k).seen) ((dcl ms i k).name)) ≥ 0))),(107,.bool ((wr low sto (fun e=>chk e==0) (fun n=>ag n (tmA ms)) (dcl ms i k)).2))] [.box [.full [],.full []],.box [.imm (sums.map Sm.v),.imm ((srD low sto chk ms i k).out.map Tb.v)],.arr 5 (((srD low sto chk ms i k).ps++((wr8 low sto chk ms i k).take j).map (bg (ms.getD i Md.zero).name (dcl ms i k))).map Pb.v) 0,.arr 1 (((srD low sto chk ms i k).seen++[(dcl ms i k).name]).map aa.str) ((srD low sto chk ms i k).seen.map aa.str).length,.box (Dc.cs (dcl ms i k)),.box (Tb.cs (dcl ms i k).tab)] ?_ ?_
 refine qW 4 [(0,.imm (ms.map Md.v)),(2,.ptr 0 0),(4,.ptr 1 0),(5,.own 2 0 ((srD low sto chk ms i k).ps++((wr8 low sto chk ms i k).take j).map (bg (ms.getD i Md.zero).name (dcl ms i k))).length),(6,.own 3 0 ((srD low sto chk ms i k).seen++[(dcl ms i k).name]).length),(7,nI i),(8,nI k),(13,.ptr 5 0),(53,.own 3 0 (srD low sto chk ms i k).seen.length),(54,.ptr 4 1),(55,.str (dcl ms i k).name),(56,.int .i64 (aS ((srD low sto chk ms i k).seen) ((dcl ms i k).name))),(57,.bool (decide ((aS ((srD low sto chk ms i k).seen) ((dcl ms i k).name)) ≥ 0))),(107,.bool ((wr low sto (fun e=>chk e==0) (fun n=>ag n (tmA ms)) (dcl ms i k)).2))] [.box [.full [],.full []],.box [.imm (sums.map Sm.v),.imm ((srD low sto chk ms i k).out.map Tb.v)],.arr 5 (((srD low sto chk ms i k).ps++((wr8 low sto chk ms i k).take j).map (bg (ms.getD i Md.zero).name (dcl ms i k))).map Pb.v) 0,.arr 1 (((srD low sto chk ms i k).seen++[(dcl ms i k).name]).map aa.str) ((srD low sto chk ms i k).seen.map aa.str).length,.box (Dc.cs (dcl ms i k)),tNb (dcl ms i k)] ?_ ?_
 apply qV 2
 refine qy (aw (l:=(srD low sto chk ms i k).out) (enc:=Tb.v) kq bW) ?_ ?_ ?_
 refine qR 1 [(0,.imm (ms.map Md.v)),(2,.ptr 0 0),(4,.ptr 1 0),(5,.own 2 0 ((srD low sto chk ms i k).ps++((wr8 low sto chk ms i k).take j).map (bg (ms.getD i Md.zero).name (dcl ms i k))).length),(6,.own 3 0 ((srD low sto chk ms i k).seen++[(dcl ms i k).name]).length),(7,nI i),(8,nI k),(13,.ptr 5 0),(14,nI ((srD low sto chk ms i k).out.length)),(53,.own 3 0 (srD low sto chk ms i k).seen.length),(54,.ptr 4 1),(55,.str (dcl ms i k).name),(56,.int .i64 (aS ((srD low sto chk ms i k).seen) ((dcl ms i k).name))),(57,.bool (decide ((aS ((srD low sto chk ms i k).seen) ((dcl ms i k).name)) ≥ 0))),(107,.bool ((wr low sto (fun e=>chk e==0) (fun n=>ag n (tmA ms)) (dcl ms i k)).2))] [.box [.full [],.full []],.box [.imm (sums.map Sm.v),.imm ((srD low sto chk ms i k).out.map Tb.v)],.arr 5 (((srD low sto chk ms i k).ps++((wr8 low sto chk ms i k).take j).map (bg (ms.getD i Md.zero).name (dcl ms i k))).map Pb.v) 0,.arr 1 (((srD low sto chk ms i k).seen++[(dcl ms i k).name]).map aa.str) ((srD low sto chk ms i k).seen.map aa.str).length,.box (Dc.cs (dcl ms i k)),tNb (dcl ms i k)] ?_ ?_
 apply az
 apply qB 6
 refine bn (σ:=Nat) (fun a=>[(0,.imm (ms.map Md.v)),(2,.ptr 0 0),(4,.ptr 1 0),(5,.own 2 0 ((srD low sto chk ms i k).ps++((wr8 low sto chk ms i k).take j).map (bg (ms.getD i Md.zero).name (dcl ms i k))).length),(6,.own 3 0 ((srD low sto chk ms i k).seen++[(dcl ms i k).name]).length),(7,.int .i64 ((i:Nat):Int)),(8,.int .i64 ((k:Nat):Int)),(13,.ptr 5 0),(14,.int .i64 ((a:Nat):Int)),(53,.own 3 0 (srD low sto chk ms i k).seen.length),(54,.ptr 4 1),(55,.str (dcl ms i k).name),(56,.int .i64 (aS ((srD low sto chk ms i k).seen) ((dcl ms i k).name))),(57,.bool (decide ((aS ((srD low sto chk ms i k).seen) ((dcl ms i k).name)) ≥ 0))),(107,.bool ((wr low sto (fun e=>chk e==0) (fun n=>ag n (tmA ms)) (dcl ms i k)).2))]) (fun a=>[.box [.full [],.full []],.box [.imm (sums.map Sm.v),.imm ((srD low sto chk ms i k).out.map Tb.v)],.arr 5 (((srD low sto chk ms i k).ps++((wr8 low sto chk ms i k).take j).map (bg (ms.getD i Md.zero).name (dcl ms i k))).map Pb.v) 0,.arr 1 (((srD low sto chk ms i k).seen++[(dcl ms i k).name]).map aa.str) ((srD low sto chk ms i k).seen.map aa.str).length,.box (Dc.cs (dcl ms i k)),tNb (dcl ms i k)]) (fun a=>dH (srD low sto chk ms i k).out (dcl ms i k).name a=dH (srD low sto chk ms i k).out (dcl ms i k).name (srD low sto chk ms i k).out.length∧a≤(srD low sto chk ms i k).out.length) (fun a=>a) ((srD low sto chk ms i k).out.length) kq (by exact ⟨rfl,Nat.le_refl _⟩) ⟨⟨kq,kq,kq,kq,kq,kq,kq,kq,kq,kq,kq,kq,kq,kq,kq,trivial⟩,by simp [aG,aa.bel],by simp,kq,by simp [ai.belO,av,aB,aa.bel,Ty.v,Ex.v,Ct.v,Co.v,Rf.v,Sm.v,Tb.v_cs,Sc.v,Md.v,Pb.v,Ls.v,-List.map_take,-List.map_drop,-List.map_append]⟩ ?_
 rintro a ha
 have ha2:=ha.2
 apply az
 apply az
 refine b6 cxM kq ap (aU ?_)
 apply qu 3
 by_cases hb9:((a:Nat):Int) > 0
 refine bQ 118 (.bool (decide (((a:Nat):Int) > 0))) (.bool true) (bO ap) kq (congrArg aa.bool (decide_eq_true hb9)) ?_
 refine bQ 119 (.bool (decide (((a:Nat):Int) > 0))) (.bool true) (bO ap) kq (congrArg aa.bool (decide_eq_true hb9)) ?_
 apply qu 3
 refine qd (lJ (a:=((a:Nat):Int)) (b:=1) kq oq oq) ?_ ?_ ?_ ?_
 refine qd ((aA (k:=.i64) (l:=(srD low sto chk ms i k).out) (enc:=Tb.v) (i:=(((a:Nat):Int) - 1)) Tb.zero kq bW cz (fun _=>rfl) oq oq).trans (congrArg (fun cs=>some (aa.pimm cs 0,_)) (cV ((srD low sto chk ms i k).out.getD (((((a:Nat):Int) - 1)).toNat) Tb.zero)))) ?_ ?_ ?_ ?_
 apply qu 6
 refine bG kq ⟨kq,?_⟩
 apply ab
 refine qZ [(0,.imm (ms.map Md.v)),(2,.ptr 0 0),(4,.ptr 1 0),(5,.own 2 0 ((srD low sto chk ms i k).ps++((wr8 low sto chk ms i k).take j).map (bg (ms.getD i Md.zero).name (dcl ms i k))).length),(6,.own 3 0 ((srD low sto chk ms i k).seen++[(dcl ms i k).name]).length),(7,nI i),(8,nI k),(13,.ptr 5 0),(14,nI a),(53,.own 3 0 (srD low sto chk ms i k).seen.length),(54,.ptr 4 1),(55,.str (dcl ms i k).name),(56,.int .i64 (aS ((srD low sto chk ms i k).seen) ((dcl ms i k).name))),(57,.bool (decide ((aS ((srD low sto chk ms i k).seen) ((dcl ms i k).name)) ≥ 0))),(107,.bool ((wr low sto (fun e=>chk e==0) (fun n=>ag n (tmA ms)) (dcl ms i k)).2)),(120,.ptr 1 1),(121,.imm ((srD low sto chk ms i k).out.map Tb.v)),(122,nI a),(123,.int .i64 (((a:Nat):Int) - 1)),(124,.pimm (Tb.cs ((srD low sto chk ms i k).out.getD (((((a:Nat):Int) - 1)).toNat) Tb.zero)) 0),(125,.pimm (Tb.cs ((srD low sto chk ms i k).out.getD (((((a:Nat):Int) - 1)).toNat) Tb.zero)) 0),(126,.str ((srD low sto chk ms i k).out.getD (((((a:Nat):Int) - 1)).toNat) Tb.zero).name),(127,.ptr 5 0),(128,.str (dcl ms i k).name),(129,.bool (!(aX (((srD low sto chk ms i k).out.getD (((((a:Nat):Int) - 1)).toNat) Tb.zero).name) ((dcl ms i k).name) || (((srD low sto chk ms i k).out.getD (((((a:Nat):Int) - 1)).toNat) Tb.zero).name)==((dcl ms i k).name)))),(130,.bool (!(aX (((srD low sto chk ms i k).out.getD (((((a:Nat):Int) - 1)).toNat) Tb.zero).name) ((dcl ms i k).name) || (((srD low sto chk ms i k).out.getD (((((a:Nat):Int) - 1)).toNat) Tb.zero).name)==((dcl ms i k).name))))] [.box [.full [],.full []],.box [.imm (sums.map Sm.v),.imm ((srD low sto chk ms i k).out.map Tb.v)],.arr 5 (((srD low sto chk ms i k).ps++((wr8 low sto chk ms i k).take j).map (bg (ms.getD i Md.zero).name (dcl ms i k))).map Pb.v) 0,.arr 1 (((srD low sto chk ms i k).seen++[(dcl ms i k).name]).map aa.str) ((srD low sto chk ms i k).seen.map aa.str).length,.box (Dc.cs (dcl ms i k)),tNb (dcl ms i k)] ?_ ?_
 by_cases hb10:(aX (((srD low sto chk ms i k).out.getD (((((a:Nat):Int) - 1)).toNat) Tb.zero).name) ((dcl ms i k).name) || (((srD low sto chk ms i k).out.getD (((((a:Nat):Int) - 1)).toNat) Tb.zero).name)==((dcl ms i k).name))=true
 refine qf (x:=(!(aX (((srD low sto chk ms i k).out.getD (((((a:Nat):Int) - 1)).toNat) Tb.zero).name) ((dcl ms i k).name) || (((srD low sto chk ms i k).out.getD (((((a:Nat):Int) - 1)).toNat) Tb.zero).name)==((dcl ms i k).name)))) (congrArg not (hb10)) ?_ ?_
 refine a6 6 kq kq ?_
 apply af
 apply af
 apply aE
 apply ab
 refine qz [(0,.imm (ms.map Md.v)),(2,.ptr 0 0),(4,.ptr 1 0),(5,.own 2 0 ((srD low sto chk ms i k).ps++((wr8 low sto chk ms i k).take j).map (bg (ms.getD i Md.zero).name (dcl ms i k))).length),(6,.own 3 0 ((srD low sto chk ms i k).seen++[(dcl ms i k).name]).length),(7,nI i),(8,nI k),(13,.ptr 5 0),(14,nI a),(53,.own 3 0 (srD low sto chk ms i k).seen.length),(54,.ptr 4 1),(55,.str (dcl ms i k).name),(56,.int .i64 (aS ((srD low sto chk ms i k).seen) ((dcl ms i k).name))),(57,.bool (decide ((aS ((srD low sto chk ms i k).seen) ((dcl ms i k).name)) ≥ 0))),(107,.bool ((wr low sto (fun e=>chk e==0) (fun n=>ag n (tmA ms)) (dcl ms i k)).2)),(120,.ptr 1 1),(121,.imm ((srD low sto chk ms i k).out.map Tb.v)),(122,nI a),(123,.int .i64 (((a:Nat):Int) - 1)),(124,.pimm (Tb.cs ((srD low sto chk ms i k).out.getD (((((a:Nat):Int) - 1)).toNat) Tb.zero)) 0),(125,.pimm (Tb.cs ((srD low sto chk ms i k).out.getD (((((a:Nat):Int) - 1)).toNat) Tb.zero)) 0),(126,.str ((srD low sto chk ms i k).out.getD (((((a:Nat):Int) - 1)).toNat) Tb.zero).name),(127,.ptr 5 0),(128,.str (dcl ms i k).name),(129,.bool (!(aX (((srD low sto chk ms i k).out.getD (((((a:Nat):Int) - 1)).toNat) Tb.zero).name) ((dcl ms i k).name) || (((srD low sto chk ms i k).out.getD (((((a:Nat):Int) - 1)).toNat) Tb.zero).name)==((dcl ms i k).name))))] ?_ ?_
 refine qU 1 [(0,.imm (ms.map Md.v)),(2,.ptr 0 0),(4,.ptr 1 0),(5,.own 2 0 ((srD low sto chk ms i k).ps++((wr8 low sto chk ms i k).take j).map (bg (ms.getD i Md.zero).name (dcl ms i k))).length),(6,.own 3 0 ((srD low sto chk ms i k).seen++[(dcl ms i k).name]).length),(7,nI i),(8,nI k),(13,.ptr 5 0),(14,nI a),(15,.full []),(53,.own 3 0 (srD low sto chk ms i k).seen.length),(54,.ptr 4 1),(55,.str (dcl ms i k).name),(56,.int .i64 (aS ((srD low sto chk ms i k).seen) ((dcl ms i k).name))),(57,.bool (decide ((aS ((srD low sto chk ms i k).seen) ((dcl ms i k).name)) ≥ 0))),(107,.bool ((wr low sto (fun e=>chk e==0) (fun n=>ag n (tmA ms)) (dcl ms i k)).2)),(120,.ptr 1 1),(121,.imm ((srD low sto chk ms i k).out.map Tb.v)),(122,nI a),(123,.int .i64 (((a:Nat):Int) - 1)),(124,.pimm (Tb.cs ((srD low sto chk ms i k).out.getD (((((a:Nat):Int) - 1)).toNat) Tb.zero)) 0),(125,.pimm (Tb.cs ((srD low sto chk ms i k).out.getD (((((a:Nat):Int) - 1)).toNat) Tb.zero)) 0),(126,.str ((srD low sto chk ms i k).out.getD (((((a:Nat):Int) - 1)).toNat) Tb.zero).name),(127,.ptr 5 0),(128,.str (dcl ms i k).name),(129,.bool (!(aX (((srD low sto chk ms i k).out.getD (((((a:Nat):Int) - 1)).toNat) Tb.zero).name) ((dcl ms i k).name) || (((srD low sto chk ms i k).out.getD (((((a:Nat):Int) - 1)).toNat) Tb.zero).name)==((dcl ms i k).name))))] ?_ ?_
 apply az
 refine b6 cxM kq ap (aU ?_)
 apply qu 4
 refine qd (dj (lo:=none) (hi:=(some (.int .i64 ((a:Nat):Int)))) (l:=(srD low sto chk ms i k).out) (enc:=Tb.v) (x:=0) (y:=((a:Nat):Int)) kq bW cz (fun _=>rfl) kq kq oq oq oq) ?_ ?_ ?_ ?_
 refine tv (v:=.own 6 0 (((srD low sto chk ms i k).out.take a).drop 0).length) (h':=[.box [.full [],.full []],.box [.imm (sums.map Sm.v),.imm ((srD low sto chk ms i k).out.map Tb.v)],.arr 5 (((srD low sto chk ms i k).ps++((wr8 low sto chk ms i k).take j).map (bg (ms.getD i Md.zero).name (dcl ms i k))).map Pb.v) 0,.arr 1 (((srD low sto chk ms i k).seen++[(dcl ms i k).name]).map aa.str) ((srD low sto chk ms i k).seen.map aa.str).length,.box (Dc.cs (dcl ms i k)),tNb (dcl ms i k),.arr 13 ((((srD low sto chk ms i k).out.take a).drop 0).map Tb.v) 0]) kq kq kq (m8 (P:=cx.P) (t:=26) (enc:=Tb.v) (l:=(((srD low sto chk ms i k).out.take a).drop 0)) (h0:=[.box [.full [],.full []],.box [.imm (sums.map Sm.v),.imm ((srD low sto chk ms i k).out.map Tb.v)],.arr 5 (((srD low sto chk ms i k).ps++((wr8 low sto chk ms i k).take j).map (bg (ms.getD i Md.zero).name (dcl ms i k))).map Pb.v) 0,.arr 1 (((srD low sto chk ms i k).seen++[(dcl ms i k).name]).map aa.str) ((srD low sto chk ms i k).seen.map aa.str).length,.box (Dc.cs (dcl ms i k)),tNb (dcl ms i k)]) kq kq bW cz ⟨by decide,rfl⟩ (fun _=>rfl) gv gv) ?_
 apply qu 2
 refine qD (cw (o:=6) (len:=((((srD low sto chk ms i k).out.take a).drop 0).length)) (l:=(((srD low sto chk ms i k).out.take a).drop 0)) (xs:=[(tNm (dcl ms i k))]) (enc:=Tb.v) (sz:=13) (fr:=0) (x:=(.full [.agg [.str (dcl ms i k).name,.imm ((dcl ms i k).tab.cols.map Co.v),.imm ((dcl ms i k).tab.key.map aa.str),.imm ((dcl ms i k).tab.refs.map Rf.v),.int .i64 ((dcl ms i k).tab.chk.kind),.str (dcl ms i k).tab.chk.name,.int .i64 ((dcl ms i k).tab.chk.n),.str (dcl ms i k).tab.chk.s,.imm ((dcl ms i k).tab.chk.names.map aa.str),.imm ((dcl ms i k).tab.chk.binds.map aa.str),.imm ((dcl ms i k).tab.chk.kids.map Ex.enc),.int .i64 ((dcl ms i k).tab.chk.pos),.int .i64 ((dcl ms i k).tab.chk.fin)]])) kq bW cz bW rfl kq rfl rfl kq ⟨by decide,by kernel_rfl⟩ (fun _=>rfl) gv gv) ?_ ?_ ?_ ?_
 apply qu 3
 refine qd (dj (lo:=(some (.int .i64 ((a:Nat):Int)))) (hi:=none) (l:=(srD low sto chk ms i k).out) (enc:=Tb.v) (x:=((a:Nat):Int)) (y:=(((srD low sto chk ms i k).out.length:Nat):Int)) kq bW cz (fun _=>rfl) kq kq oq oq oq) ?_ ?_ ?_ ?_
 refine qD (cw (o:=6) (len:=(((((srD low sto chk ms i k).out.take a).drop 0)++[(tNm (dcl ms i k))]).length)) (l:=((((srD low sto chk ms i k).out.take a).drop 0)++[(tNm (dcl ms i k))])) (xs:=(((srD low sto chk ms i k).out.take (srD low sto chk ms i k).out.length).drop a)) (enc:=Tb.v) (sz:=13) (fr:=0) (x:=(.imm ((((srD low sto chk ms i k).out.take (srD low sto chk ms i k).out.length).drop a).map Tb.v))) kq bW cz bW rfl kq rfl rfl kq ⟨by decide,by kernel_rfl⟩ (fun _=>rfl) gv gv) ?_ ?_ ?_ ?_
 apply qu 1
 refine bG kq ⟨kq,?_⟩
 apply ab
 refine qZ [(0,.imm (ms.map Md.v)),(2,.ptr 0 0),(4,.ptr 1 0),(5,.own 2 0 ((srD low sto chk ms i k).ps++((wr8 low sto chk ms i k).take j).map (bg (ms.getD i Md.zero).name (dcl ms i k))).length),(6,.own 3 0 ((srD low sto chk ms i k).seen++[(dcl ms i k).name]).length),(7,nI i),(8,nI k),(15,.own 6 0 (((((srD low sto chk ms i k).out.take a).drop 0)++[(tNm (dcl ms i k))])++(((srD low sto chk ms i k).out.take (srD low sto chk ms i k).out.length).drop a)).length),(53,.own 3 0 (srD low sto chk ms i k).seen.length),(54,.ptr 4 1),(55,.str (dcl ms i k).name),(56,.int .i64 (aS ((srD low sto chk ms i k).seen) ((dcl ms i k).name))),(57,.bool (decide ((aS ((srD low sto chk ms i k).seen) ((dcl ms i k).name)) ≥ 0))),(107,.bool ((wr low sto (fun e=>chk e==0) (fun n=>ag n (tmA ms)) (dcl ms i k)).2)),(120,.ptr 1 1),(121,.imm ((srD low sto chk ms i k).out.map Tb.v)),(122,nI a),(123,.int .i64 (((a:Nat):Int) - 1)),(124,.pimm (Tb.cs ((srD low sto chk ms i k).out.getD (((((a:Nat):Int) - 1)).toNat) Tb.zero)) 0),(125,.pimm (Tb.cs ((srD low sto chk ms i k).out.getD (((((a:Nat):Int) - 1)).toNat) Tb.zero)) 0),(126,.str ((srD low sto chk ms i k).out.getD (((((a:Nat):Int) - 1)).toNat) Tb.zero).name),(127,.ptr 5 0),(128,.str (dcl ms i k).name),(129,.bool (!(aX (((srD low sto chk ms i k).out.getD (((((a:Nat):Int) - 1)).toNat) Tb.zero).name) ((dcl ms i k).name) || (((srD low sto chk ms i k).out.getD (((((a:Nat):Int) - 1)).toNat) Tb.zero).name)==((dcl ms i k).name))))] [.box [.full [],.full []],.box [.imm (sums.map Sm.v),.imm ((srD low sto chk ms i k).out.map Tb.v)],.arr 5 (((srD low sto chk ms i k).ps++((wr8 low sto chk ms i k).take j).map (bg (ms.getD i Md.zero).name (dcl ms i k))).map Pb.v) 0,.arr 1 (((srD low sto chk ms i k).seen++[(dcl ms i k).name]).map aa.str) ((srD low sto chk ms i k).seen.map aa.str).length,.box (Dc.cs (dcl ms i k)),tNb (dcl ms i k),.arr 13 ((((((srD low sto chk ms i k).out.take a).drop 0)++[(tNm (dcl ms i k))])++(((srD low sto chk ms i k).out.take (srD low sto chk ms i k).out.length).drop a)).map Tb.v) 0] ?_ ?_
 refine pA 15 6 (es:=((((((srD low sto chk ms i k).out.take a).drop 0)++[(tNm (dcl ms i k))])++(((srD low sto chk ms i k).out.take (srD low sto chk ms i k).out.length).drop a)).map Tb.v)) (off:=0) (len:=((((((srD low sto chk ms i k).out.take a).drop 0)++[(tNm (dcl ms i k))])++(((srD low sto chk ms i k).out.take (srD low sto chk ms i k).out.length).drop a)).length)) (sz:=13) (fr:=0) ((((((srD low sto chk ms i k).out.take a).drop 0)++[(tNm (dcl ms i k))])++(((srD low sto chk ms i k).out.take (srD low sto chk ms i k).out.length).drop a)).map Tb.v) kq kq zq kq ?_
 refine qZ [(0,.imm (ms.map Md.v)),(2,.ptr 0 0),(4,.ptr 1 0),(5,.own 2 0 ((srD low sto chk ms i k).ps++((wr8 low sto chk ms i k).take j).map (bg (ms.getD i Md.zero).name (dcl ms i k))).length),(6,.own 3 0 ((srD low sto chk ms i k).seen++[(dcl ms i k).name]).length),(7,nI i),(8,nI k),(15,.imm ((((((srD low sto chk ms i k).out.take a).drop 0)++[(tNm (dcl ms i k))])++(((srD low sto chk ms i k).out.take (srD low sto chk ms i k).out.length).drop a)).map Tb.v)),(53,.own 3 0 (srD low sto chk ms i k).seen.length),(54,.ptr 4 1),(55,.str (dcl ms i k).name),(56,.int .i64 (aS ((srD low sto chk ms i k).seen) ((dcl ms i k).name))),(57,.bool (decide ((aS ((srD low sto chk ms i k).seen) ((dcl ms i k).name)) ≥ 0))),(107,.bool ((wr low sto (fun e=>chk e==0) (fun n=>ag n (tmA ms)) (dcl ms i k)).2)),(120,.ptr 1 1),(121,.imm ((srD low sto chk ms i k).out.map Tb.v)),(122,nI a),(123,.int .i64 (((a:Nat):Int) - 1)),(124,.pimm (Tb.cs ((srD low sto chk ms i k).out.getD (((((a:Nat):Int) - 1)).toNat) Tb.zero)) 0),(125,.pimm (Tb.cs ((srD low sto chk ms i k).out.getD (((((a:Nat):Int) - 1)).toNat) Tb.zero)) 0),(126,.str ((srD low sto chk ms i k).out.getD (((((a:Nat):Int) - 1)).toNat) Tb.zero).name),(127,.ptr 5 0),(128,.str (dcl ms i k).name),(129,.bool (!(aX (((srD low sto chk ms i k).out.getD (((((a:Nat):Int) - 1)).toNat) Tb.zero).name) ((dcl ms i k).name) || (((srD low sto chk ms i k).out.getD (((((a:Nat):Int) - 1)).toNat) Tb.zero).name)==((dcl ms i k).name))))] [.box [.full [],.full []],.box [.imm (sums.map Sm.v),.imm ((srD low sto chk ms i k).out.map Tb.v)],.arr 5 (((srD low sto chk ms i k).ps++((wr8 low sto chk ms i k).take j).map (bg (ms.getD i Md.zero).name (dcl ms i k))).map Pb.v) 0,.arr 1 (((srD low sto chk ms i k).seen++[(dcl ms i k).name]).map aa.str) ((srD low sto chk ms i k).seen.map aa.str).length,.box (Dc.cs (dcl ms i k)),tNb (dcl ms i k),.arr 13 ((((((srD low sto chk ms i k).out.take a).drop 0)++[(tNm (dcl ms i k))])++(((srD low sto chk ms i k).out.take (srD low sto chk ms i k).out.length).drop a)).map Tb.v) ((((((srD low sto chk ms i k).out.take a).drop 0)++[(tNm (dcl ms i k))])++(((srD low sto chk ms i k).out.take (srD low sto chk ms i k).out.length).drop a)).map Tb.v).length] ?_ ?_
 apply qo
 apply qr 3
 apply qe
 apply ah
 apply ab
 refine qZ [(0,.imm (ms.map Md.v)),(2,.ptr 0 0),(4,.ptr 1 0),(5,.own 2 0 ((srD low sto chk ms i k).ps++((wr8 low sto chk ms i k).take j).map (bg (ms.getD i Md.zero).name (dcl ms i k))).length),(6,.own 3 0 ((srD low sto chk ms i k).seen++[(dcl ms i k).name]).length),(7,nI i),(8,nI k),(53,.own 3 0 (srD low sto chk ms i k).seen.length),(54,.ptr 4 1),(55,.str (dcl ms i k).name),(56,.int .i64 (aS ((srD low sto chk ms i k).seen) ((dcl ms i k).name))),(57,.bool (decide ((aS ((srD low sto chk ms i k).seen) ((dcl ms i k).name)) ≥ 0))),(107,.bool ((wr low sto (fun e=>chk e==0) (fun n=>ag n (tmA ms)) (dcl ms i k)).2)),(120,.ptr 1 1),(121,.imm ((srD low sto chk ms i k).out.map Tb.v)),(122,nI a),(123,.int .i64 (((a:Nat):Int) - 1)),(124,.pimm (Tb.cs ((srD low sto chk ms i k).out.getD (((((a:Nat):Int) - 1)).toNat) Tb.zero)) 0),(125,.pimm (Tb.cs ((srD low sto chk ms i k).out.getD (((((a:Nat):Int) - 1)).toNat) Tb.zero)) 0),(126,.str ((srD low sto chk ms i k).out.getD (((((a:Nat):Int) - 1)).toNat) Tb.zero).name),(127,.ptr 5 0),(128,.str (dcl ms i k).name),(129,.bool (!(aX (((srD low sto chk ms i k).out.getD (((((a:Nat):Int) - 1)).toNat) Tb.zero).name) ((dcl ms i k).name) || (((srD low sto chk ms i k).out.getD (((((a:Nat):Int) - 1)).toNat) Tb.zero).name)==((dcl ms i k).name))))] [.box [.full [],.full []],.box [.imm (sums.map Sm.v),.imm ((((((srD low sto chk ms i k).out.take a).drop 0)++[(tNm (dcl ms i k))])++(((srD low sto chk ms i k).out.take (srD low sto chk ms i k).out.length).drop a)).map Tb.v)],.arr 5 (((srD low sto chk ms i k).ps++((wr8 low sto chk ms i k).take j).map (bg (ms.getD i Md.zero).name (dcl ms i k))).map Pb.v) 0,.arr 1 (((srD low sto chk ms i k).seen++[(dcl ms i k).name]).map aa.str) ((srD low sto chk ms i k).seen.map aa.str).length,.box (Dc.cs (dcl ms i k)),tNb (dcl ms i k),.arr 13 ((((((srD low sto chk ms i k).out.take a).drop 0)++[(tNm (dcl ms i k))])++(((srD low sto chk ms i k).out.take (srD low sto chk ms i k).out.length).drop a)).map Tb.v) ((((((srD low sto chk ms i k).out.take a).drop 0)++[(tNm (dcl ms i k))])++(((srD low sto chk ms i k).out.take (srD low sto chk ms i k).out.length).drop a)).map Tb.v).length] ?_ ?_
 refine lV 3 [.box [.full [],.full []],.box [.imm (sums.map Sm.v),.imm ((((((srD low sto chk ms i k).out.take a).drop 0)++[(tNm (dcl ms i k))])++(((srD low sto chk ms i k).out.take (srD low sto chk ms i k).out.length).drop a)).map Tb.v)],.arr 5 (((srD low sto chk ms i k).ps++((wr8 low sto chk ms i k).take j).map (bg (ms.getD i Md.zero).name (dcl ms i k))).map Pb.v) 0,.arr 1 (((srD low sto chk ms i k).seen++[(dcl ms i k).name]).map aa.str) (((srD low sto chk ms i k).seen++[(dcl ms i k).name]).map aa.str).length,.box (Dc.cs (dcl ms i k)),tNb (dcl ms i k),.arr 13 ((((((srD low sto chk ms i k).out.take a).drop 0)++[(tNm (dcl ms i k))])++(((srD low sto chk ms i k).out.take (srD low sto chk ms i k).out.length).drop a)).map Tb.v) ((((((srD low sto chk ms i k).out.take a).drop 0)++[(tNm (dcl ms i k))])++(((srD low sto chk ms i k).out.take (srD low sto chk ms i k).out.length).drop a)).map Tb.v).length] rv ?_
 refine qZ [(0,.imm (ms.map Md.v)),(2,.ptr 0 0),(4,.ptr 1 0),(5,.own 2 0 ((srD low sto chk ms i k).ps++((wr8 low sto chk ms i k).take j).map (bg (ms.getD i Md.zero).name (dcl ms i k))).length),(6,.own 3 0 ((srD low sto chk ms i k).seen++[(dcl ms i k).name]).length),(7,nI i),(8,nI k),(53,.own 3 0 (srD low sto chk ms i k).seen.length),(54,.ptr 4 1),(55,.str (dcl ms i k).name),(56,.int .i64 (aS ((srD low sto chk ms i k).seen) ((dcl ms i k).name))),(57,.bool (decide ((aS ((srD low sto chk ms i k).seen) ((dcl ms i k).name)) ≥ 0))),(107,.bool ((wr low sto (fun e=>chk e==0) (fun n=>ag n (tmA ms)) (dcl ms i k)).2)),(120,.ptr 1 1),(121,.imm ((srD low sto chk ms i k).out.map Tb.v)),(122,nI a),(123,.int .i64 (((a:Nat):Int) - 1)),(124,.pimm (Tb.cs ((srD low sto chk ms i k).out.getD (((((a:Nat):Int) - 1)).toNat) Tb.zero)) 0),(125,.pimm (Tb.cs ((srD low sto chk ms i k).out.getD (((((a:Nat):Int) - 1)).toNat) Tb.zero)) 0),(126,.str ((srD low sto chk ms i k).out.getD (((((a:Nat):Int) - 1)).toNat) Tb.zero).name),(127,.ptr 5 0),(128,.str (dcl ms i k).name),(129,.bool (!(aX (((srD low sto chk ms i k).out.getD (((((a:Nat):Int) - 1)).toNat) Tb.zero).name) ((dcl ms i k).name) || (((srD low sto chk ms i k).out.getD (((((a:Nat):Int) - 1)).toNat) Tb.zero).name)==((dcl ms i k).name))))] [.box [.full [],.full []],.box [.imm (sums.map Sm.v),.imm ((((((srD low sto chk ms i k).out.take a).drop 0)++[(tNm (dcl ms i k))])++(((srD low sto chk ms i k).out.take (srD low sto chk ms i k).out.length).drop a)).map Tb.v)],.arr 5 (((srD low sto chk ms i k).ps++((wr8 low sto chk ms i k).take j).map (bg (ms.getD i Md.zero).name (dcl ms i k))).map Pb.v) 0,.arr 1 (((srD low sto chk ms i k).seen++[(dcl ms i k).name]).map aa.str) (((srD low sto chk ms i k).seen++[(dcl ms i k).name]).map aa.str).length,.box (Dc.cs (dcl ms i k)),tNb (dcl ms i k),.arr 13 ((((((srD low sto chk ms i k).out.take a).drop 0)++[(tNm (dcl ms i k))])++(((srD low sto chk ms i k).out.take (srD low sto chk ms i k).out.length).drop a)).map Tb.v) ((((((srD low sto chk ms i k).out.take a).drop 0)++[(tNm (dcl ms i k))])++(((srD low sto chk ms i k).out.take (srD low sto chk ms i k).out.length).drop a)).map Tb.v).length] ?_ ?_
 apply qo
 apply qr 1
 refine qy (aI (a:=((k:Nat):Int)) (b:=1) kq oq oq) ?_ ?_ ?_
 apply qr 1
 apply qe
 refine ab ⟨k+1,?_,?_,⟨⟨kq,kq,kq,(Eq.trans (b:=.own 2 0 ((srD low sto chk ms i k).ps++((wr8 low sto chk ms i k).take j).map (bg (ms.getD i Md.zero).name (dcl ms i k))).length) kq Cb),(Eq.trans (b:=.own 3 0 ((srD low sto chk ms i k).seen++[(dcl ms i k).name]).length) kq (by rw [sE aq aq aq aq] <;> (show _=_;kernel_rfl))),kq,kq,trivial⟩,by simp [aG,aa.bel],by simp,(Eq.trans (b:=[.box [.full [],.full []],.box [.imm (sums.map Sm.v),.imm ((((((srD low sto chk ms i k).out.take a).drop 0)++[(tNm (dcl ms i k))])++(((srD low sto chk ms i k).out.take (srD low sto chk ms i k).out.length).drop a)).map Tb.v)],.arr 5 (((srD low sto chk ms i k).ps++((wr8 low sto chk ms i k).take j).map (bg (ms.getD i Md.zero).name (dcl ms i k))).map Pb.v) 0,.arr 1 (((srD low sto chk ms i k).seen++[(dcl ms i k).name]).map aa.str) (((srD low sto chk ms i k).seen++[(dcl ms i k).name]).map aa.str).length]) kq BY),by simp [ai.belO,av,aB,aa.bel,Ty.v,Ex.v,Ct.v,Co.v,Rf.v,Sm.v,Tb.v_cs,Sc.v,Md.v,Pb.v,Ls.v,-List.map_take,-List.map_drop,-List.map_append]⟩⟩
 · omega
 · omega
 iterate 33 kernel_rfl
 refine qt (x:=(!(aX (((srD low sto chk ms i k).out.getD (((((a:Nat):Int) - 1)).toNat) Tb.zero).name) ((dcl ms i k).name) || (((srD low sto chk ms i k).out.getD (((((a:Nat):Int) - 1)).toNat) Tb.zero).name)==((dcl ms i k).name)))) (congrArg not (Bool.eq_false_iff.2 hb10)) ?_ ?_
 apply qK
 refine qz [(0,.imm (ms.map Md.v)),(2,.ptr 0 0),(4,.ptr 1 0),(5,.own 2 0 ((srD low sto chk ms i k).ps++((wr8 low sto chk ms i k).take j).map (bg (ms.getD i Md.zero).name (dcl ms i k))).length),(6,.own 3 0 ((srD low sto chk ms i k).seen++[(dcl ms i k).name]).length),(7,nI i),(8,nI k),(13,.ptr 5 0),(14,nI a),(53,.own 3 0 (srD low sto chk ms i k).seen.length),(54,.ptr 4 1),(55,.str (dcl ms i k).name),(56,.int .i64 (aS ((srD low sto chk ms i k).seen) ((dcl ms i k).name))),(57,.bool (decide ((aS ((srD low sto chk ms i k).seen) ((dcl ms i k).name)) ≥ 0))),(107,.bool ((wr low sto (fun e=>chk e==0) (fun n=>ag n (tmA ms)) (dcl ms i k)).2)),(120,.ptr 1 1),(121,.imm ((srD low sto chk ms i k).out.map Tb.v)),(122,nI a),(123,.int .i64 (((a:Nat):Int) - 1)),(124,.pimm (Tb.cs ((srD low sto chk ms i k).out.getD (((((a:Nat):Int) - 1)).toNat) Tb.zero)) 0),(125,.pimm (Tb.cs ((srD low sto chk ms i k).out.getD (((((a:Nat):Int) - 1)).toNat) Tb.zero)) 0),(126,.str ((srD low sto chk ms i k).out.getD (((((a:Nat):Int) - 1)).toNat) Tb.zero).name),(127,.ptr 5 0),(128,.str (dcl ms i k).name),(129,.bool (!(aX (((srD low sto chk ms i k).out.getD (((((a:Nat):Int) - 1)).toNat) Tb.zero).name) ((dcl ms i k).name) || (((srD low sto chk ms i k).out.getD (((((a:Nat):Int) - 1)).toNat) Tb.zero).name)==((dcl ms i k).name))))] ?_ ?_
 apply qB 7
 apply qo
 apply qr 1
 refine qy (lJ (a:=((a:Nat):Int)) (b:=1) kq oq oq) ?_ ?_ ?_
 apply qr 1
 apply qe
 apply ah
 refine ab ⟨a - 1,?_,?_,⟨⟨kq,kq,kq,kq,kq,kq,kq,kq,(Eq.trans (b:=.int .i64 (((a:Nat):Int) - 1)) kq (by exact congrArg (aa.int .i64) oq)),kq,kq,kq,kq,kq,kq,trivial⟩,by simp [aG,aa.bel],by simp,kq,by simp [ai.belO,av,aB,aa.bel,Ty.v,Ex.v,Ct.v,Co.v,Rf.v,Sm.v,Tb.v_cs,Sc.v,Md.v,Pb.v,Ls.v,-List.map_take,-List.map_drop,-List.map_append]⟩⟩
 · omega
 · exact ⟨wd ha.1 aq aq,by omega⟩
 iterate 20 kernel_rfl
 refine bQ 118 (.bool (decide (((a:Nat):Int) > 0))) (.bool false) (bO ap) kq (congrArg aa.bool (decide_eq_false hb9)) ?_
 refine bQ 119 (.bool (decide (((a:Nat):Int) > 0))) (.bool false) (bO ap) kq (congrArg aa.bool (decide_eq_false hb9)) ?_
 apply qu 11
 refine bG kq ⟨kq,?_⟩
 apply ab
 refine qZ [(0,.imm (ms.map Md.v)),(2,.ptr 0 0),(4,.ptr 1 0),(5,.own 2 0 ((srD low sto chk ms i k).ps++((wr8 low sto chk ms i k).take j).map (bg (ms.getD i Md.zero).name (dcl ms i k))).length),(6,.own 3 0 ((srD low sto chk ms i k).seen++[(dcl ms i k).name]).length),(7,nI i),(8,nI k),(13,.ptr 5 0),(14,nI a),(53,.own 3 0 (srD low sto chk ms i k).seen.length),(54,.ptr 4 1),(55,.str (dcl ms i k).name),(56,.int .i64 (aS ((srD low sto chk ms i k).seen) ((dcl ms i k).name))),(57,.bool (decide ((aS ((srD low sto chk ms i k).seen) ((dcl ms i k).name)) ≥ 0))),(107,.bool ((wr low sto (fun e=>chk e==0) (fun n=>ag n (tmA ms)) (dcl ms i k)).2)),(120,.tup []),(121,.tup []),(122,.tup []),(123,.tup []),(124,.tup []),(125,.tup []),(126,.tup []),(127,.tup []),(128,.tup []),(129,.tup []),(130,.bool false)] [.box [.full [],.full []],.box [.imm (sums.map Sm.v),.imm ((srD low sto chk ms i k).out.map Tb.v)],.arr 5 (((srD low sto chk ms i k).ps++((wr8 low sto chk ms i k).take j).map (bg (ms.getD i Md.zero).name (dcl ms i k))).map Pb.v) 0,.arr 1 (((srD low sto chk ms i k).seen++[(dcl ms i k).name]).map aa.str) ((srD low sto chk ms i k).seen.map aa.str).length,.box (Dc.cs (dcl ms i k)),tNb (dcl ms i k)] ?_ ?_
 refine nC kq kq ?_
 refine a6 6 kq kq ?_
 apply af
 apply af
 apply aE
 apply ab
 refine qz [(0,.imm (ms.map Md.v)),(2,.ptr 0 0),(4,.ptr 1 0),(5,.own 2 0 ((srD low sto chk ms i k).ps++((wr8 low sto chk ms i k).take j).map (bg (ms.getD i Md.zero).name (dcl ms i k))).length),(6,.own 3 0 ((srD low sto chk ms i k).seen++[(dcl ms i k).name]).length),(7,nI i),(8,nI k),(13,.ptr 5 0),(14,nI a),(53,.own 3 0 (srD low sto chk ms i k).seen.length),(54,.ptr 4 1),(55,.str (dcl ms i k).name),(56,.int .i64 (aS ((srD low sto chk ms i k).seen) ((dcl ms i k).name))),(57,.bool (decide ((aS ((srD low sto chk ms i k).seen) ((dcl ms i k).name)) ≥ 0))),(107,.bool ((wr low sto (fun e=>chk e==0) (fun n=>ag n (tmA ms)) (dcl ms i k)).2)),(120,.tup []),(121,.tup []),(122,.tup []),(123,.tup []),(124,.tup []),(125,.tup []),(126,.tup []),(127,.tup []),(128,.tup []),(129,.tup [])] ?_ ?_
 refine qU 1 [(0,.imm (ms.map Md.v)),(2,.ptr 0 0),(4,.ptr 1 0),(5,.own 2 0 ((srD low sto chk ms i k).ps++((wr8 low sto chk ms i k).take j).map (bg (ms.getD i Md.zero).name (dcl ms i k))).length),(6,.own 3 0 ((srD low sto chk ms i k).seen++[(dcl ms i k).name]).length),(7,nI i),(8,nI k),(13,.ptr 5 0),(14,nI a),(15,.full []),(53,.own 3 0 (srD low sto chk ms i k).seen.length),(54,.ptr 4 1),(55,.str (dcl ms i k).name),(56,.int .i64 (aS ((srD low sto chk ms i k).seen) ((dcl ms i k).name))),(57,.bool (decide ((aS ((srD low sto chk ms i k).seen) ((dcl ms i k).name)) ≥ 0))),(107,.bool ((wr low sto (fun e=>chk e==0) (fun n=>ag n (tmA ms)) (dcl ms i k)).2)),(120,.tup []),(121,.tup []),(122,.tup []),(123,.tup []),(124,.tup []),(125,.tup []),(126,.tup []),(127,.tup []),(128,.tup []),(129,.tup [])] ?_ ?_
 apply az
 refine b6 cxM kq ap (aU ?_)
 apply qu 4
 refine qd (dj (lo:=none) (hi:=(some (.int .i64 ((a:Nat):Int)))) (l:=(srD low sto chk ms i k).out) (enc:=Tb.v) (x:=0) (y:=((a:Nat):Int)) kq bW cz (fun _=>rfl) kq kq oq oq oq) ?_ ?_ ?_ ?_
 refine tv (v:=.own 6 0 (((srD low sto chk ms i k).out.take a).drop 0).length) (h':=[.box [.full [],.full []],.box [.imm (sums.map Sm.v),.imm ((srD low sto chk ms i k).out.map Tb.v)],.arr 5 (((srD low sto chk ms i k).ps++((wr8 low sto chk ms i k).take j).map (bg (ms.getD i Md.zero).name (dcl ms i k))).map Pb.v) 0,.arr 1 (((srD low sto chk ms i k).seen++[(dcl ms i k).name]).map aa.str) ((srD low sto chk ms i k).seen.map aa.str).length,.box (Dc.cs (dcl ms i k)),tNb (dcl ms i k),.arr 13 ((((srD low sto chk ms i k).out.take a).drop 0).map Tb.v) 0]) kq kq kq (m8 (P:=cx.P) (t:=26) (enc:=Tb.v) (l:=(((srD low sto chk ms i k).out.take a).drop 0)) (h0:=[.box [.full [],.full []],.box [.imm (sums.map Sm.v),.imm ((srD low sto chk ms i k).out.map Tb.v)],.arr 5 (((srD low sto chk ms i k).ps++((wr8 low sto chk ms i k).take j).map (bg (ms.getD i Md.zero).name (dcl ms i k))).map Pb.v) 0,.arr 1 (((srD low sto chk ms i k).seen++[(dcl ms i k).name]).map aa.str) ((srD low sto chk ms i k).seen.map aa.str).length,.box (Dc.cs (dcl ms i k)),tNb (dcl ms i k)]) kq kq bW cz ⟨by decide,rfl⟩ (fun _=>rfl) gv gv) ?_
 apply qu 2
 refine qD (cw (o:=6) (len:=((((srD low sto chk ms i k).out.take a).drop 0).length)) (l:=(((srD low sto chk ms i k).out.take a).drop 0)) (xs:=[(tNm (dcl ms i k))]) (enc:=Tb.v) (sz:=13) (fr:=0) (x:=(.full [.agg [.str (dcl ms i k).name,.imm ((dcl ms i k).tab.cols.map Co.v),.imm ((dcl ms i k).tab.key.map aa.str),.imm ((dcl ms i k).tab.refs.map Rf.v),.int .i64 ((dcl ms i k).tab.chk.kind),.str (dcl ms i k).tab.chk.name,.int .i64 ((dcl ms i k).tab.chk.n),.str (dcl ms i k).tab.chk.s,.imm ((dcl ms i k).tab.chk.names.map aa.str),.imm ((dcl ms i k).tab.chk.binds.map aa.str),.imm ((dcl ms i k).tab.chk.kids.map Ex.enc),.int .i64 ((dcl ms i k).tab.chk.pos),.int .i64 ((dcl ms i k).tab.chk.fin)]])) kq bW cz bW rfl kq rfl rfl kq ⟨by decide,by kernel_rfl⟩ (fun _=>rfl) gv gv) ?_ ?_ ?_ ?_
 apply qu 3
 refine qd (dj (lo:=(some (.int .i64 ((a:Nat):Int)))) (hi:=none) (l:=(srD low sto chk ms i k).out) (enc:=Tb.v) (x:=((a:Nat):Int)) (y:=(((srD low sto chk ms i k).out.length:Nat):Int)) kq bW cz (fun _=>rfl) kq kq oq oq oq) ?_ ?_ ?_ ?_
 refine qD (cw (o:=6) (len:=(((((srD low sto chk ms i k).out.take a).drop 0)++[(tNm (dcl ms i k))]).length)) (l:=((((srD low sto chk ms i k).out.take a).drop 0)++[(tNm (dcl ms i k))])) (xs:=(((srD low sto chk ms i k).out.take (srD low sto chk ms i k).out.length).drop a)) (enc:=Tb.v) (sz:=13) (fr:=0) (x:=(.imm ((((srD low sto chk ms i k).out.take (srD low sto chk ms i k).out.length).drop a).map Tb.v))) kq bW cz bW rfl kq rfl rfl kq ⟨by decide,by kernel_rfl⟩ (fun _=>rfl) gv gv) ?_ ?_ ?_ ?_
 apply qu 1
 refine bG kq ⟨kq,?_⟩
 apply ab
 refine qZ [(0,.imm (ms.map Md.v)),(2,.ptr 0 0),(4,.ptr 1 0),(5,.own 2 0 ((srD low sto chk ms i k).ps++((wr8 low sto chk ms i k).take j).map (bg (ms.getD i Md.zero).name (dcl ms i k))).length),(6,.own 3 0 ((srD low sto chk ms i k).seen++[(dcl ms i k).name]).length),(7,nI i),(8,nI k),(15,.own 6 0 (((((srD low sto chk ms i k).out.take a).drop 0)++[(tNm (dcl ms i k))])++(((srD low sto chk ms i k).out.take (srD low sto chk ms i k).out.length).drop a)).length),(53,.own 3 0 (srD low sto chk ms i k).seen.length),(54,.ptr 4 1),(55,.str (dcl ms i k).name),(56,.int .i64 (aS ((srD low sto chk ms i k).seen) ((dcl ms i k).name))),(57,.bool (decide ((aS ((srD low sto chk ms i k).seen) ((dcl ms i k).name)) ≥ 0))),(107,.bool ((wr low sto (fun e=>chk e==0) (fun n=>ag n (tmA ms)) (dcl ms i k)).2)),(120,.tup []),(121,.tup []),(122,.tup []),(123,.tup []),(124,.tup []),(125,.tup []),(126,.tup []),(127,.tup []),(128,.tup []),(129,.tup [])] [.box [.full [],.full []],.box [.imm (sums.map Sm.v),.imm ((srD low sto chk ms i k).out.map Tb.v)],.arr 5 (((srD low sto chk ms i k).ps++((wr8 low sto chk ms i k).take j).map (bg (ms.getD i Md.zero).name (dcl ms i k))).map Pb.v) 0,.arr 1 (((srD low sto chk ms i k).seen++[(dcl ms i k).name]).map aa.str) ((srD low sto chk ms i k).seen.map aa.str).length,.box (Dc.cs (dcl ms i k)),tNb (dcl ms i k),.arr 13 ((((((srD low sto chk ms i k).out.take a).drop 0)++[(tNm (dcl ms i k))])++(((srD low sto chk ms i k).out.take (srD low sto chk ms i k).out.length).drop a)).map Tb.v) 0] ?_ ?_
 refine pA 15 6 (es:=((((((srD low sto chk ms i k).out.take a).drop 0)++[(tNm (dcl ms i k))])++(((srD low sto chk ms i k).out.take (srD low sto chk ms i k).out.length).drop a)).map Tb.v)) (off:=0) (len:=((((((srD low sto chk ms i k).out.take a).drop 0)++[(tNm (dcl ms i k))])++(((srD low sto chk ms i k).out.take (srD low sto chk ms i k).out.length).drop a)).length)) (sz:=13) (fr:=0) ((((((srD low sto chk ms i k).out.take a).drop 0)++[(tNm (dcl ms i k))])++(((srD low sto chk ms i k).out.take (srD low sto chk ms i k).out.length).drop a)).map Tb.v) kq kq zq kq ?_
 refine qZ [(0,.imm (ms.map Md.v)),(2,.ptr 0 0),(4,.ptr 1 0),(5,.own 2 0 ((srD low sto chk ms i k).ps++((wr8 low sto chk ms i k).take j).map (bg (ms.getD i Md.zero).name (dcl ms i k))).length),(6,.own 3 0 ((srD low sto chk ms i k).seen++[(dcl ms i k).name]).length),(7,nI i),(8,nI k),(15,.imm ((((((srD low sto chk ms i k).out.take a).drop 0)++[(tNm (dcl ms i k))])++(((srD low sto chk ms i k).out.take (srD low sto chk ms i k).out.length).drop a)).map Tb.v)),(53,.own 3 0 (srD low sto chk ms i k).seen.length),(54,.ptr 4 1),(55,.str (dcl ms i k).name),(56,.int .i64 (aS ((srD low sto chk ms i k).seen) ((dcl ms i k).name))),(57,.bool (decide ((aS ((srD low sto chk ms i k).seen) ((dcl ms i k).name)) ≥ 0))),(107,.bool ((wr low sto (fun e=>chk e==0) (fun n=>ag n (tmA ms)) (dcl ms i k)).2)),(120,.tup []),(121,.tup []),(122,.tup []),(123,.tup []),(124,.tup []),(125,.tup []),(126,.tup []),(127,.tup []),(128,.tup []),(129,.tup [])] [.box [.full [],.full []],.box [.imm (sums.map Sm.v),.imm ((srD low sto chk ms i k).out.map Tb.v)],.arr 5 (((srD low sto chk ms i k).ps++((wr8 low sto chk ms i k).take j).map (bg (ms.getD i Md.zero).name (dcl ms i k))).map Pb.v) 0,.arr 1 (((srD low sto chk ms i k).seen++[(dcl ms i k).name]).map aa.str) ((srD low sto chk ms i k).seen.map aa.str).length,.box (Dc.cs (dcl ms i k)),tNb (dcl ms i k),.arr 13 ((((((srD low sto chk ms i k).out.take a).drop 0)++[(tNm (dcl ms i k))])++(((srD low sto chk ms i k).out.take (srD low sto chk ms i k).out.length).drop a)).map Tb.v) ((((((srD low sto chk ms i k).out.take a).drop 0)++[(tNm (dcl ms i k))])++(((srD low sto chk ms i k).out.take (srD low sto chk ms i k).out.length).drop a)).map Tb.v).length] ?_ ?_
 apply qo
 apply qr 3
 apply qe
 apply ah
 apply ab
 refine qZ [(0,.imm (ms.map Md.v)),(2,.ptr 0 0),(4,.ptr 1 0),(5,.own 2 0 ((srD low sto chk ms i k).ps++((wr8 low sto chk ms i k).take j).map (bg (ms.getD i Md.zero).name (dcl ms i k))).length),(6,.own 3 0 ((srD low sto chk ms i k).seen++[(dcl ms i k).name]).length),(7,nI i),(8,nI k),(53,.own 3 0 (srD low sto chk ms i k).seen.length),(54,.ptr 4 1),(55,.str (dcl ms i k).name),(56,.int .i64 (aS ((srD low sto chk ms i k).seen) ((dcl ms i k).name))),(57,.bool (decide ((aS ((srD low sto chk ms i k).seen) ((dcl ms i k).name)) ≥ 0))),(107,.bool ((wr low sto (fun e=>chk e==0) (fun n=>ag n (tmA ms)) (dcl ms i k)).2)),(120,.tup []),(121,.tup []),(122,.tup []),(123,.tup []),(124,.tup []),(125,.tup []),(126,.tup []),(127,.tup []),(128,.tup []),(129,.tup [])] [.box [.full [],.full []],.box [.imm (sums.map Sm.v),.imm ((((((srD low sto chk ms i k).out.take a).drop 0)++[(tNm (dcl ms i k))])++(((srD low sto chk ms i k).out.take (srD low sto chk ms i k).out.length).drop a)).map Tb.v)],.arr 5 (((srD low sto chk ms i k).ps++((wr8 low sto chk ms i k).take j).map (bg (ms.getD i Md.zero).name (dcl ms i k))).map Pb.v) 0,.arr 1 (((srD low sto chk ms i k).seen++[(dcl ms i k).name]).map aa.str) ((srD low sto chk ms i k).seen.map aa.str).length,.box (Dc.cs (dcl ms i k)),tNb (dcl ms i k),.arr 13 ((((((srD low sto chk ms i k).out.take a).drop 0)++[(tNm (dcl ms i k))])++(((srD low sto chk ms i k).out.take (srD low sto chk ms i k).out.length).drop a)).map Tb.v) ((((((srD low sto chk ms i k).out.take a).drop 0)++[(tNm (dcl ms i k))])++(((srD low sto chk ms i k).out.take (srD low sto chk ms i k).out.length).drop a)).map Tb.v).length] ?_ ?_
 refine lV 3 [.box [.full [],.full []],.box [.imm (sums.map Sm.v),.imm ((((((srD low sto chk ms i k).out.take a).drop 0)++[(tNm (dcl ms i k))])++(((srD low sto chk ms i k).out.take (srD low sto chk ms i k).out.length).drop a)).map Tb.v)],.arr 5 (((srD low sto chk ms i k).ps++((wr8 low sto chk ms i k).take j).map (bg (ms.getD i Md.zero).name (dcl ms i k))).map Pb.v) 0,.arr 1 (((srD low sto chk ms i k).seen++[(dcl ms i k).name]).map aa.str) (((srD low sto chk ms i k).seen++[(dcl ms i k).name]).map aa.str).length,.box (Dc.cs (dcl ms i k)),tNb (dcl ms i k),.arr 13 ((((((srD low sto chk ms i k).out.take a).drop 0)++[(tNm (dcl ms i k))])++(((srD low sto chk ms i k).out.take (srD low sto chk ms i k).out.length).drop a)).map Tb.v) ((((((srD low sto chk ms i k).out.take a).drop 0)++[(tNm (dcl ms i k))])++(((srD low sto chk ms i k).out.take (srD low sto chk ms i k).out.length).drop a)).map Tb.v).length] rv ?_
 refine qZ [(0,.imm (ms.map Md.v)),(2,.ptr 0 0),(4,.ptr 1 0),(5,.own 2 0 ((srD low sto chk ms i k).ps++((wr8 low sto chk ms i k).take j).map (bg (ms.getD i Md.zero).name (dcl ms i k))).length),(6,.own 3 0 ((srD low sto chk ms i k).seen++[(dcl ms i k).name]).length),(7,nI i),(8,nI k),(53,.own 3 0 (srD low sto chk ms i k).seen.length),(54,.ptr 4 1),(55,.str (dcl ms i k).name),(56,.int .i64 (aS ((srD low sto chk ms i k).seen) ((dcl ms i k).name))),(57,.bool (decide ((aS ((srD low sto chk ms i k).seen) ((dcl ms i k).name)) ≥ 0))),(107,.bool ((wr low sto (fun e=>chk e==0) (fun n=>ag n (tmA ms)) (dcl ms i k)).2)),(120,.tup []),(121,.tup []),(122,.tup []),(123,.tup []),(124,.tup []),(125,.tup []),(126,.tup []),(127,.tup []),(128,.tup []),(129,.tup [])] [.box [.full [],.full []],.box [.imm (sums.map Sm.v),.imm ((((((srD low sto chk ms i k).out.take a).drop 0)++[(tNm (dcl ms i k))])++(((srD low sto chk ms i k).out.take (srD low sto chk ms i k).out.length).drop a)).map Tb.v)],.arr 5 (((srD low sto chk ms i k).ps++((wr8 low sto chk ms i k).take j).map (bg (ms.getD i Md.zero).name (dcl ms i k))).map Pb.v) 0,.arr 1 (((srD low sto chk ms i k).seen++[(dcl ms i k).name]).map aa.str) (((srD low sto chk ms i k).seen++[(dcl ms i k).name]).map aa.str).length,.box (Dc.cs (dcl ms i k)),tNb (dcl ms i k),.arr 13 ((((((srD low sto chk ms i k).out.take a).drop 0)++[(tNm (dcl ms i k))])++(((srD low sto chk ms i k).out.take (srD low sto chk ms i k).out.length).drop a)).map Tb.v) ((((((srD low sto chk ms i k).out.take a).drop 0)++[(tNm (dcl ms i k))])++(((srD low sto chk ms i k).out.take (srD low sto chk ms i k).out.length).drop a)).map Tb.v).length] ?_ ?_
 apply qo
 apply qr 1
 refine qy (aI (a:=((k:Nat):Int)) (b:=1) kq oq oq) ?_ ?_ ?_
 apply qr 1
 apply qe
 refine ab ⟨k+1,?_,?_,⟨⟨kq,kq,kq,(Eq.trans (b:=.own 2 0 ((srD low sto chk ms i k).ps++((wr8 low sto chk ms i k).take j).map (bg (ms.getD i Md.zero).name (dcl ms i k))).length) kq Cb),(Eq.trans (b:=.own 3 0 ((srD low sto chk ms i k).seen++[(dcl ms i k).name]).length) kq (by rw [sE aq aq aq aq] <;> (show _=_;kernel_rfl))),kq,kq,trivial⟩,by simp [aG,aa.bel],by simp,(Eq.trans (b:=[.box [.full [],.full []],.box [.imm (sums.map Sm.v),.imm ((((((srD low sto chk ms i k).out.take a).drop 0)++[(tNm (dcl ms i k))])++(((srD low sto chk ms i k).out.take (srD low sto chk ms i k).out.length).drop a)).map Tb.v)],.arr 5 (((srD low sto chk ms i k).ps++((wr8 low sto chk ms i k).take j).map (bg (ms.getD i Md.zero).name (dcl ms i k))).map Pb.v) 0,.arr 1 (((srD low sto chk ms i k).seen++[(dcl ms i k).name]).map aa.str) (((srD low sto chk ms i k).seen++[(dcl ms i k).name]).map aa.str).length]) kq BY),by simp [ai.belO,av,aB,aa.bel,Ty.v,Ex.v,Ct.v,Co.v,Rf.v,Sm.v,Tb.v_cs,Sc.v,Md.v,Pb.v,Ls.v,-List.map_take,-List.map_drop,-List.map_append]⟩⟩
 · omega
 · omega
 iterate 79 kernel_rfl
 refine qm [51,52] (x:=(((dcl ms i k).kind) != 1)) (bne_iff_ne.2 hb3) ?_ ?_
 apply qR 6 [(0,.imm (ms.map Md.v)),(2,.ptr 0 0),(4,.ptr 1 0),(5,.own 2 0 (srD low sto chk ms i k).ps.length),(6,.own 3 0 (srD low sto chk ms i k).seen.length),(7,nI i),(8,nI k),(9,.ptr 4 0),(53,.tup []),(54,.tup []),(55,.tup []),(56,.tup []),(57,.tup []),(58,.bool true)] [.box [.full [],.full []],.box [.imm (sums.map Sm.v),.imm ((srD low sto chk ms i k).out.map Tb.v)],.arr 5 ((srD low sto chk ms i k).ps.map Pb.v) 0,.arr 1 ((srD low sto chk ms i k).seen.map aa.str) ((srD low sto chk ms i k).seen.map aa.str).length,.box (Dc.cs (dcl ms i k))]
 refine cU kq kq ?_
 refine a6 3 kq kq ?_
 apply af
 apply aE
 apply ab
 apply qz [(0,.imm (ms.map Md.v)),(2,.ptr 0 0),(4,.ptr 1 0),(5,.own 2 0 (srD low sto chk ms i k).ps.length),(6,.own 3 0 (srD low sto chk ms i k).seen.length),(7,nI i),(8,nI k),(53,.tup []),(54,.tup []),(55,.tup []),(56,.tup []),(57,.tup [])]
 refine lV 3 [.box [.full [],.full []],.box [.imm (sums.map Sm.v),.imm ((srD low sto chk ms i k).out.map Tb.v)],.arr 5 ((srD low sto chk ms i k).ps.map Pb.v) 0,.arr 1 ((srD low sto chk ms i k).seen.map aa.str) ((srD low sto chk ms i k).seen.map aa.str).length,.box (Dc.cs (dcl ms i k))] rv ?_
 apply qz [(0,.imm (ms.map Md.v)),(2,.ptr 0 0),(4,.ptr 1 0),(5,.own 2 0 (srD low sto chk ms i k).ps.length),(6,.own 3 0 (srD low sto chk ms i k).seen.length),(7,nI i),(8,nI k),(53,.tup []),(54,.tup []),(55,.tup []),(56,.tup []),(57,.tup [])]
 apply qo
 apply qr 1
 refine qy (aI (a:=((k:Nat):Int)) (b:=1) kq oq oq) ?_ ?_ ?_
 apply qr 1
 apply qe
 refine ab ⟨k+1,?_,?_,⟨⟨kq,kq,kq,(Eq.trans (b:=.own 2 0 (srD low sto chk ms i k).ps.length) kq zT),(Eq.trans (b:=.own 3 0 (srD low sto chk ms i k).seen.length) kq zT),kq,kq,trivial⟩,by simp [aG,aa.bel],by simp,(Eq.trans (b:=[.box [.full [],.full []],.box [.imm (sums.map Sm.v),.imm ((srD low sto chk ms i k).out.map Tb.v)],.arr 5 ((srD low sto chk ms i k).ps.map Pb.v) 0,.arr 1 ((srD low sto chk ms i k).seen.map aa.str) ((srD low sto chk ms i k).seen.map aa.str).length]) kq zT),by simp [ai.belO,av,aB,aa.bel,Ty.v,Ex.v,Ct.v,Co.v,Rf.v,Sm.v,Tb.v_cs,Sc.v,Md.v,Pb.v,Ls.v,-List.map_take,-List.map_drop,-List.map_append]⟩⟩
 · omega
 · omega
 iterate 25 kernel_rfl
 apply qf (decide_eq_false hb2)
 refine a6 2 kq kq ?_
 apply af
 apply af
 apply aE
 apply ah
 apply ab
 apply qz [(0,.imm (ms.map Md.v)),(2,.ptr 0 0),(4,.ptr 1 0),(5,.own 2 0 (srD low sto chk ms i k).ps.length),(6,.own 3 0 (srD low sto chk ms i k).seen.length),(7,nI i)]
 apply qo
 apply qr 1
 refine qy (aI (a:=((i:Nat):Int)) (b:=1) kq oq oq) ?_ ?_ ?_
 apply qr 1
 apply qe
 refine ab ⟨i+1,?_,?_,⟨⟨kq,kq,kq,(Eq.trans (b:=.own 2 0 (srD low sto chk ms i k).ps.length) kq zd),(Eq.trans (b:=.own 3 0 (srD low sto chk ms i k).seen.length) kq zd),kq,trivial⟩,by simp [aG,aa.bel],by simp,(Eq.trans (b:=[.box [.full [],.full []],.box [.imm (sums.map Sm.v),.imm ((srD low sto chk ms i k).out.map Tb.v)],.arr 5 ((srD low sto chk ms i k).ps.map Pb.v) 0,.arr 1 ((srD low sto chk ms i k).seen.map aa.str) ((srD low sto chk ms i k).seen.map aa.str).length]) kq zd),by simp [ai.belO,av,aB,aa.bel,Ty.v,Ex.v,Ct.v,Co.v,Rf.v,Sm.v,Tb.v_cs,Sc.v,Md.v,Pb.v,Ls.v,-List.map_take,-List.map_drop,-List.map_append]⟩⟩
 · omega
 · omega
 iterate 25 kernel_rfl
 apply qf (decide_eq_false hb1)
 refine a6 0 kq kq ?_
 apply af
 apply af
 apply aE
 apply ab
 apply qz [(2,.ptr 0 0),(4,.ptr 1 0),(5,.own 2 0 (srI low sto chk ms i).ps.length)]
 apply qU 1 [(2,.ptr 0 0),(4,.ptr 1 0),(5,.own 2 0 (srI low sto chk ms i).ps.length),(16,.bool true)]
 apply az
 apply qB 8
 refine bn (σ:=(Nat×Bool)) (fun ⟨q,b⟩=>[(2,.ptr 0 0),(4,.ptr 1 0),(5,.own 2 0 (srI low sto chk ms ms.length).ps.length),(16,.bool (b))]) (fun ⟨q,b⟩=>[.box [.full [],.full []],.box [.imm (sums.map Sm.v),.imm ((itR q (srI low sto chk ms ms.length).out).map Tb.v)],.arr 5 ((srI low sto chk ms ms.length).ps.map Pb.v) 0]) (fun ⟨q,b⟩=>b=false→b9 (itR q (srI low sto chk ms ms.length).out)=(itR q (srI low sto chk ms ms.length).out)) (fun ⟨q,b⟩=>(bif b then (itR q (srI low sto chk ms ms.length).out).length+1 else 0)) (0,true) kq (by intro h;cases h) ⟨⟨kq,kq,(Eq.trans (b:=.own 2 0 (srI low sto chk ms i).ps.length) kq (by (have e_:i=ms.length:=by omega);subst e_;show _=_;kernel_rfl)),(Eq.trans (b:=.bool true) kq kq),trivial⟩,by simp [aG,aa.bel],by simp,(Eq.trans (b:=[.box [.full [],.full []],.box [.imm (sums.map Sm.v),.imm ((srI low sto chk ms i).out.map Tb.v)],.arr 5 ((srI low sto chk ms i).ps.map Pb.v) 0]) kq (by (try dsimp only);(have e_:i=ms.length:=by omega);subst e_;show _=_;kernel_rfl)),by simp [ai.belO,av,aB,aa.bel,Ty.v,Ex.v,Ct.v,Co.v,Rf.v,Sm.v,Tb.v_cs,Sc.v,Md.v,Pb.v,Ls.v,-List.map_take,-List.map_drop,-List.map_append]⟩ ?_
 rintro ⟨q,b⟩ hJ
 have hq8:(itR q (srI low sto chk ms ms.length).out).length≤8:=Nat.le_trans (xy _ q) oz
 apply qZ [(2,.ptr 0 0),(4,.ptr 1 0),(5,.own 2 0 (srI low sto chk ms ms.length).ps.length),(16,.bool (b))] [.box [.full [],.full []],.box [.imm (sums.map Sm.v),.imm ((itR q (srI low sto chk ms ms.length).out).map Tb.v)],.arr 5 ((srI low sto chk ms ms.length).ps.map Pb.v) 0]
 apply az
 apply qU 1 [(2,.ptr 0 0),(4,.ptr 1 0),(5,.own 2 0 (srI low sto chk ms ms.length).ps.length),(149,.bool (b))]
 by_cases hb11:(b)=true
 apply qt (hb11)
 apply qK
 apply qz [(2,.ptr 0 0),(4,.ptr 1 0),(5,.own 2 0 (srI low sto chk ms ms.length).ps.length)]
 apply qB 9
 apply qU 1 [(2,.ptr 0 0),(4,.ptr 1 0),(5,.own 2 0 (srI low sto chk ms ms.length).ps.length),(16,.bool false)]
 apply qU 1 [(2,.ptr 0 0),(4,.ptr 1 0),(5,.own 2 0 (srI low sto chk ms ms.length).ps.length),(16,.bool false),(17,.full [])]
 refine lU 17 13 dq kq ?_
 apply qZ [(2,.ptr 0 0),(4,.ptr 1 0),(5,.own 2 0 (srI low sto chk ms ms.length).ps.length),(16,.bool false),(17,.own 3 0 0)] [.box [.full [],.full []],.box [.imm (sums.map Sm.v),.imm ((itR q (srI low sto chk ms ms.length).out).map Tb.v)],.arr 5 ((srI low sto chk ms ms.length).ps.map Pb.v) 0,.arr 13 (([]:List (Tb)).map Tb.v) 0]
 apply az
 apply qU 1 [(2,.ptr 0 0),(4,.ptr 1 0),(5,.own 2 0 (srI low sto chk ms ms.length).ps.length),(16,.bool false),(17,.own 3 0 0),(18,.int .i64 0)]
 apply qB 10
 refine bn (σ:=Nat) (fun x=>[(2,.ptr 0 0),(4,.ptr 1 0),(5,.own 2 0 (srI low sto chk ms ms.length).ps.length),(16,.bool ((((itR q (srI low sto chk ms ms.length).out).take x).any (fun t=>!keep (itR q (srI low sto chk ms ms.length).out) t)))),(17,.own 3 0 (((itR q (srI low sto chk ms ms.length).out).take x).filter (keep (itR q (srI low sto chk ms ms.length).out))).length),(18,.int .i64 ((x:Nat):Int))]) (fun x=>[.box [.full [],.full []],.box [.imm (sums.map Sm.v),.imm ((itR q (srI low sto chk ms ms.length).out).map Tb.v)],.arr 5 ((srI low sto chk ms ms.length).ps.map Pb.v) 0,.arr 13 ((((itR q (srI low sto chk ms ms.length).out).take x).filter (keep (itR q (srI low sto chk ms ms.length).out))).map Tb.v) 0]) (fun x=>x≤(itR q (srI low sto chk ms ms.length).out).length) (fun x=>(itR q (srI low sto chk ms ms.length).out).length - x) 0 kq uT ⟨⟨kq,kq,kq,(Eq.trans (b:=.bool false) kq kq),(Eq.trans (b:=.own 3 0 0) kq kq),kq,trivial⟩,by simp [aG,aa.bel],by simp,(Eq.trans (b:=[.box [.full [],.full []],.box [.imm (sums.map Sm.v),.imm ((itR q (srI low sto chk ms ms.length).out).map Tb.v)],.arr 5 ((srI low sto chk ms ms.length).ps.map Pb.v) 0,.arr 13 (([]:List (Tb)).map Tb.v) 0]) kq kq),by simp [ai.belO,av,aB,aa.bel,Ty.v,Ex.v,Ct.v,Co.v,Rf.v,Sm.v,Tb.v_cs,Sc.v,Md.v,Pb.v,Ls.v,-List.map_take,-List.map_drop,-List.map_append]⟩ ?_
 rintro x hx
 have hxl:(((itR q (srI low sto chk ms ms.length).out).take x).filter (keep (itR q (srI low sto chk ms ms.length).out))).length≤x:=Nat.le_trans (List.length_filter_le _ _) (by rw [List.length_take];omega)
 apply az
 apply qV 3
 refine qy (aw (l:=(itR q (srI low sto chk ms ms.length).out)) (enc:=Tb.v) kq bW) ?_ ?_ ?_
 refine qR 1 [(2,.ptr 0 0),(4,.ptr 1 0),(5,.own 2 0 (srI low sto chk ms ms.length).ps.length),(16,.bool ((((itR q (srI low sto chk ms ms.length).out).take x).any (fun t=>!keep (itR q (srI low sto chk ms ms.length).out) t)))),(17,.own 3 0 (((itR q (srI low sto chk ms ms.length).out).take x).filter (keep (itR q (srI low sto chk ms ms.length).out))).length),(18,nI x),(154,.bool (decide (((x:Nat):Int)<(((itR q (srI low sto chk ms ms.length).out).length:Nat):Int))))] [.box [.full [],.full []],.box [.imm (sums.map Sm.v),.imm ((itR q (srI low sto chk ms ms.length).out).map Tb.v)],.arr 5 ((srI low sto chk ms ms.length).ps.map Pb.v) 0,.arr 13 ((((itR q (srI low sto chk ms ms.length).out).take x).filter (keep (itR q (srI low sto chk ms ms.length).out))).map Tb.v) 0] ?_ ?_
 by_cases hb12:((x:Nat):Int)<(((itR q (srI low sto chk ms ms.length).out).length:Nat):Int)
 apply qt (decide_eq_true hb12)
 apply qK
 refine qz [(2,.ptr 0 0),(4,.ptr 1 0),(5,.own 2 0 (srI low sto chk ms ms.length).ps.length),(16,.bool ((((itR q (srI low sto chk ms ms.length).out).take x).any (fun t=>!keep (itR q (srI low sto chk ms ms.length).out) t)))),(17,.own 3 0 (((itR q (srI low sto chk ms ms.length).out).take x).filter (keep (itR q (srI low sto chk ms ms.length).out))).length),(18,nI x)] ?_ ?_
 apply az
 apply qB 11
 refine qU 1 [(2,.ptr 0 0),(4,.ptr 1 0),(5,.own 2 0 (srI low sto chk ms ms.length).ps.length),(16,.bool ((((itR q (srI low sto chk ms ms.length).out).take x).any (fun t=>!keep (itR q (srI low sto chk ms ms.length).out) t)))),(17,.own 3 0 (((itR q (srI low sto chk ms ms.length).out).take x).filter (keep (itR q (srI low sto chk ms ms.length).out))).length),(18,nI x),(19,.bool true)] ?_ ?_
 apply az
 refine qU 1 [(2,.ptr 0 0),(4,.ptr 1 0),(5,.own 2 0 (srI low sto chk ms ms.length).ps.length),(16,.bool ((((itR q (srI low sto chk ms ms.length).out).take x).any (fun t=>!keep (itR q (srI low sto chk ms ms.length).out) t)))),(17,.own 3 0 (((itR q (srI low sto chk ms ms.length).out).take x).filter (keep (itR q (srI low sto chk ms ms.length).out))).length),(18,nI x),(19,.bool true),(20,.int .i64 0)] ?_ ?_
 apply qB 12
 refine bn (σ:=Nat) (fun y=>[(2,.ptr 0 0),(4,.ptr 1 0),(5,.own 2 0 (srI low sto chk ms ms.length).ps.length),(16,.bool ((((itR q (srI low sto chk ms ms.length).out).take x).any (fun t=>!keep (itR q (srI low sto chk ms ms.length).out) t)))),(17,.own 3 0 (((itR q (srI low sto chk ms ms.length).out).take x).filter (keep (itR q (srI low sto chk ms ms.length).out))).length),(18,.int .i64 ((x:Nat):Int)),(19,.bool (((((itR q (srI low sto chk ms ms.length).out).getD x Tb.zero).refs.take y).all (fun r=>ck (itR q (srI low sto chk ms ms.length).out) r.tab)))),(20,.int .i64 ((y:Nat):Int))]) (fun y=>[.box [.full [],.full []],.box [.imm (sums.map Sm.v),.imm ((itR q (srI low sto chk ms ms.length).out).map Tb.v)],.arr 5 ((srI low sto chk ms ms.length).ps.map Pb.v) 0,.arr 13 ((((itR q (srI low sto chk ms ms.length).out).take x).filter (keep (itR q (srI low sto chk ms ms.length).out))).map Tb.v) 0]) (fun y=>y≤((itR q (srI low sto chk ms ms.length).out).getD x Tb.zero).refs.length) (fun y=>((itR q (srI low sto chk ms ms.length).out).getD x Tb.zero).refs.length - y) 0 kq uT ⟨⟨kq,kq,kq,kq,kq,kq,(Eq.trans (b:=.bool true) kq kq),kq,trivial⟩,by simp [aG,aa.bel],by simp,kq,by simp [ai.belO,av,aB,aa.bel,Ty.v,Ex.v,Ct.v,Co.v,Rf.v,Sm.v,Tb.v_cs,Sc.v,Md.v,Pb.v,Ls.v,-List.map_take,-List.map_drop,-List.map_append]⟩ ?_
 rintro y hy
 have hry:=zC hf (q:=q) x
 apply az
 apply qV 4
 refine qy ((aA (k:=.i64) (l:=(itR q (srI low sto chk ms ms.length).out)) (enc:=Tb.v) (i:=((x:Nat):Int)) Tb.zero kq bW cz (fun _=>rfl) oq oq).trans (congrArg (fun cs=>some (aa.pimm cs 0,_)) (cV ((itR q (srI low sto chk ms ms.length).out).getD x Tb.zero)))) ?_ ?_ ?_
 apply qr 2
 refine qy (aw (l:=((itR q (srI low sto chk ms ms.length).out).getD x Tb.zero).refs) (enc:=Rf.v) kq gt) ?_ ?_ ?_
 refine qR 1 [(2,.ptr 0 0),(4,.ptr 1 0),(5,.own 2 0 (srI low sto chk ms ms.length).ps.length),(16,.bool ((((itR q (srI low sto chk ms ms.length).out).take x).any (fun t=>!keep (itR q (srI low sto chk ms ms.length).out) t)))),(17,.own 3 0 (((itR q (srI low sto chk ms ms.length).out).take x).filter (keep (itR q (srI low sto chk ms ms.length).out))).length),(18,nI x),(19,.bool (((((itR q (srI low sto chk ms ms.length).out).getD x Tb.zero).refs.take y).all (fun r=>ck (itR q (srI low sto chk ms ms.length).out) r.tab)))),(20,nI y),(165,.bool (decide (((y:Nat):Int)<((((itR q (srI low sto chk ms ms.length).out).getD x Tb.zero).refs.length:Nat):Int))))] [.box [.full [],.full []],.box [.imm (sums.map Sm.v),.imm ((itR q (srI low sto chk ms ms.length).out).map Tb.v)],.arr 5 ((srI low sto chk ms ms.length).ps.map Pb.v) 0,.arr 13 ((((itR q (srI low sto chk ms ms.length).out).take x).filter (keep (itR q (srI low sto chk ms ms.length).out))).map Tb.v) 0] ?_ ?_
 by_cases hb13:((y:Nat):Int)<((((itR q (srI low sto chk ms ms.length).out).getD x Tb.zero).refs.length:Nat):Int)
 apply qt (decide_eq_true hb13)
 apply qK
 refine qz [(2,.ptr 0 0),(4,.ptr 1 0),(5,.own 2 0 (srI low sto chk ms ms.length).ps.length),(16,.bool ((((itR q (srI low sto chk ms ms.length).out).take x).any (fun t=>!keep (itR q (srI low sto chk ms ms.length).out) t)))),(17,.own 3 0 (((itR q (srI low sto chk ms ms.length).out).take x).filter (keep (itR q (srI low sto chk ms ms.length).out))).length),(18,nI x),(19,.bool (((((itR q (srI low sto chk ms ms.length).out).getD x Tb.zero).refs.take y).all (fun r=>ck (itR q (srI low sto chk ms ms.length).out) r.tab)))),(20,nI y)] ?_ ?_
 apply az
 apply qB 13
 apply az
 refine b6 cxM kq ap (aU ?_)
 apply qu 5
 refine qd ((aA (k:=.i64) (l:=(itR q (srI low sto chk ms ms.length).out)) (enc:=Tb.v) (i:=((x:Nat):Int)) Tb.zero kq bW cz (fun _=>rfl) oq oq).trans (congrArg (fun cs=>some (aa.pimm cs 0,_)) (cV ((itR q (srI low sto chk ms ms.length).out).getD x Tb.zero)))) ?_ ?_ ?_ ?_
 apply qu 3
 refine qd ((aA (k:=.i64) (l:=((itR q (srI low sto chk ms ms.length).out).getD x Tb.zero).refs) (enc:=Rf.v) (i:=((y:Nat):Int)) Rf.zero kq gt mD (fun _=>rfl) oq oq).trans (congrArg (fun cs=>some (aa.pimm cs 0,_)) (en (((itR q (srI low sto chk ms ms.length).out).getD x Tb.zero).refs.getD y Rf.zero)))) ?_ ?_ ?_ ?_
 apply qu 2
 refine cc (args:=[.imm ((itR q (srI low sto chk ms ms.length).out).map Tb.v),.str (((itR q (srI low sto chk ms ms.length).out).getD x Tb.zero).refs.getD y Rf.zero).tab]) kq kq kq kq kq (tP (itR q (srI low sto chk ms ms.length).out) ((((itR q (srI low sto chk ms ms.length).out).getD x Tb.zero).refs.getD y Rf.zero).tab) oq) (by intro _;simp [aa.frz,Dc.v,oZ,Ty.v,Ex.v,Ct.v,Co.v,Rf.v,Sm.v,Tb.v_cs,Sc.v,Md.v,Pb.v,Ls.v,-List.map_take,-List.map_drop,-List.map_append]) yj zw ?_
 apply qu 1
 refine bG kq ⟨kq,?_⟩
 apply ab
 refine qZ [(2,.ptr 0 0),(4,.ptr 1 0),(5,.own 2 0 (srI low sto chk ms ms.length).ps.length),(16,.bool ((((itR q (srI low sto chk ms ms.length).out).take x).any (fun t=>!keep (itR q (srI low sto chk ms ms.length).out) t)))),(17,.own 3 0 (((itR q (srI low sto chk ms ms.length).out).take x).filter (keep (itR q (srI low sto chk ms ms.length).out))).length),(18,nI x),(19,.bool (((((itR q (srI low sto chk ms ms.length).out).getD x Tb.zero).refs.take y).all (fun r=>ck (itR q (srI low sto chk ms ms.length).out) r.tab)))),(20,nI y),(21,.bool (ck (itR q (srI low sto chk ms ms.length).out) ((((itR q (srI low sto chk ms ms.length).out).getD x Tb.zero).refs.getD y Rf.zero).tab)))] [.box [.full [],.full []],.box [.imm (sums.map Sm.v),.imm ((itR q (srI low sto chk ms ms.length).out).map Tb.v)],.arr 5 ((srI low sto chk ms ms.length).ps.map Pb.v) 0,.arr 13 ((((itR q (srI low sto chk ms ms.length).out).take x).filter (keep (itR q (srI low sto chk ms ms.length).out))).map Tb.v) 0] ?_ ?_
 apply qo
 apply qr 2
 by_cases hb14:(((((itR q (srI low sto chk ms ms.length).out).getD x Tb.zero).refs.take y).all (fun r=>ck (itR q (srI low sto chk ms ms.length).out) r.tab)))=true
 refine sg 19 (.bool (((((itR q (srI low sto chk ms ms.length).out).getD x Tb.zero).refs.take y).all (fun r=>ck (itR q (srI low sto chk ms ms.length).out) r.tab)))) (.bool true) (r9 (dL ap)) kq (congrArg aa.bool (hb14)) ?_
 refine sg 181 (.bool (((((itR q (srI low sto chk ms ms.length).out).getD x Tb.zero).refs.take y).all (fun r=>ck (itR q (srI low sto chk ms ms.length).out) r.tab)))) (.bool true) (r9 (dL ap)) kq (congrArg aa.bool (hb14)) ?_
 refine sg 182 (.bool (((((itR q (srI low sto chk ms ms.length).out).getD x Tb.zero).refs.take y).all (fun r=>ck (itR q (srI low sto chk ms ms.length).out) r.tab)))) (.bool true) (r9 (dL ap)) kq (congrArg aa.bool (hb14)) ?_
 apply qr 3
 apply qe
 apply ah
 apply ab
 refine qz [(2,.ptr 0 0),(4,.ptr 1 0),(5,.own 2 0 (srI low sto chk ms ms.length).ps.length),(16,.bool ((((itR q (srI low sto chk ms ms.length).out).take x).any (fun t=>!keep (itR q (srI low sto chk ms ms.length).out) t)))),(17,.own 3 0 (((itR q (srI low sto chk ms ms.length).out).take x).filter (keep (itR q (srI low sto chk ms ms.length).out))).length),(18,nI x),(19,.bool (ck (itR q (srI low sto chk ms ms.length).out) ((((itR q (srI low sto chk ms ms.length).out).getD x Tb.zero).refs.getD y Rf.zero).tab))),(20,nI y),(183,.bool (ck (itR q (srI low sto chk ms ms.length).out) ((((itR q (srI low sto chk ms ms.length).out).getD x Tb.zero).refs.getD y Rf.zero).tab)))] ?_ ?_
 apply qo
 apply qr 1
 refine qy (aI (a:=((y:Nat):Int)) (b:=1) kq oq oq) ?_ ?_ ?_
 apply qr 1
 apply qe
 refine ab ⟨y+1,?_,?_,⟨⟨kq,kq,kq,kq,kq,kq,(Eq.trans (b:=.bool (ck (itR q (srI low sto chk ms ms.length).out) ((((itR q (srI low sto chk ms ms.length).out).getD x Tb.zero).refs.getD y Rf.zero).tab))) kq A7),kq,trivial⟩,by simp [aG,aa.bel],by simp,kq,by simp [ai.belO,av,aB,aa.bel,Ty.v,Ex.v,Ct.v,Co.v,Rf.v,Sm.v,Tb.v_cs,Sc.v,Md.v,Pb.v,Ls.v,-List.map_take,-List.map_drop,-List.map_append]⟩⟩
 · omega
 · omega
 iterate 9 kernel_rfl
 refine sg 19 (.bool (((((itR q (srI low sto chk ms ms.length).out).getD x Tb.zero).refs.take y).all (fun r=>ck (itR q (srI low sto chk ms ms.length).out) r.tab)))) (.bool false) (r9 (dL ap)) kq (congrArg aa.bool (Bool.eq_false_iff.2 hb14)) ?_
 refine sg 181 (.bool (((((itR q (srI low sto chk ms ms.length).out).getD x Tb.zero).refs.take y).all (fun r=>ck (itR q (srI low sto chk ms ms.length).out) r.tab)))) (.bool false) (r9 (dL ap)) kq (congrArg aa.bool (Bool.eq_false_iff.2 hb14)) ?_
 refine sg 182 (.bool (((((itR q (srI low sto chk ms ms.length).out).getD x Tb.zero).refs.take y).all (fun r=>ck (itR q (srI low sto chk ms ms.length).out) r.tab)))) (.bool false) (r9 (dL ap)) kq (congrArg aa.bool (Bool.eq_false_iff.2 hb14)) ?_
 apply qr 3
 apply qe
 apply ah
 apply ab
 refine qz [(2,.ptr 0 0),(4,.ptr 1 0),(5,.own 2 0 (srI low sto chk ms ms.length).ps.length),(16,.bool ((((itR q (srI low sto chk ms ms.length).out).take x).any (fun t=>!keep (itR q (srI low sto chk ms ms.length).out) t)))),(17,.own 3 0 (((itR q (srI low sto chk ms ms.length).out).take x).filter (keep (itR q (srI low sto chk ms ms.length).out))).length),(18,nI x),(19,.bool false),(20,nI y),(183,.tup [])] ?_ ?_
 apply qo
 apply qr 1
 refine qy (aI (a:=((y:Nat):Int)) (b:=1) kq oq oq) ?_ ?_ ?_
 apply qr 1
 apply qe
 refine ab ⟨y+1,?_,?_,⟨⟨kq,kq,kq,kq,kq,kq,(Eq.trans (b:=.bool false) kq A7),kq,trivial⟩,by simp [aG,aa.bel],by simp,kq,by simp [ai.belO,av,aB,aa.bel,Ty.v,Ex.v,Ct.v,Co.v,Rf.v,Sm.v,Tb.v_cs,Sc.v,Md.v,Pb.v,Ls.v,-List.map_take,-List.map_drop,-List.map_append]⟩⟩
 · omega
 · omega
 iterate 29 kernel_rfl
 apply qf (decide_eq_false hb13)
 refine a6 12 kq kq ?_
 apply af
 apply af
 apply aE
 apply ab
 refine qz [(2,.ptr 0 0),(4,.ptr 1 0),(5,.own 2 0 (srI low sto chk ms ms.length).ps.length),(16,.bool ((((itR q (srI low sto chk ms ms.length).out).take x).any (fun t=>!keep (itR q (srI low sto chk ms ms.length).out) t)))),(17,.own 3 0 (((itR q (srI low sto chk ms ms.length).out).take x).filter (keep (itR q (srI low sto chk ms ms.length).out))).length),(18,nI x),(19,.bool (((((itR q (srI low sto chk ms ms.length).out).getD x Tb.zero).refs.take y).all (fun r=>ck (itR q (srI low sto chk ms ms.length).out) r.tab))))] ?_ ?_
 refine fY 19 (.bool (((((itR q (srI low sto chk ms ms.length).out).getD x Tb.zero).refs.take y).all (fun r=>ck (itR q (srI low sto chk ms ms.length).out) r.tab)))) (.bool (keep (itR q (srI low sto chk ms ms.length).out) ((itR q (srI low sto chk ms ms.length).out).getD x Tb.zero))) kq (by rw [List.take_of_length_le oq] <;> rfl) ?_
 refine qz [(2,.ptr 0 0),(4,.ptr 1 0),(5,.own 2 0 (srI low sto chk ms ms.length).ps.length),(16,.bool ((((itR q (srI low sto chk ms ms.length).out).take x).any (fun t=>!keep (itR q (srI low sto chk ms ms.length).out) t)))),(17,.own 3 0 (((itR q (srI low sto chk ms ms.length).out).take x).filter (keep (itR q (srI low sto chk ms ms.length).out))).length),(18,nI x),(19,.bool (keep (itR q (srI low sto chk ms ms.length).out) ((itR q (srI low sto chk ms ms.length).out).getD x Tb.zero)))] ?_ ?_
 refine qU 1 [(2,.ptr 0 0),(4,.ptr 1 0),(5,.own 2 0 (srI low sto chk ms ms.length).ps.length),(16,.bool ((((itR q (srI low sto chk ms ms.length).out).take x).any (fun t=>!keep (itR q (srI low sto chk ms ms.length).out) t)))),(17,.own 3 0 (((itR q (srI low sto chk ms ms.length).out).take x).filter (keep (itR q (srI low sto chk ms ms.length).out))).length),(18,nI x),(185,.bool (keep (itR q (srI low sto chk ms ms.length).out) ((itR q (srI low sto chk ms ms.length).out).getD x Tb.zero)))] ?_ ?_
 by_cases hb15:(keep (itR q (srI low sto chk ms ms.length).out) ((itR q (srI low sto chk ms ms.length).out).getD x Tb.zero))=true
 apply qt (hb15)
 apply qo
 apply qr 4
 refine qy ((aA (k:=.i64) (l:=(itR q (srI low sto chk ms ms.length).out)) (enc:=Tb.v) (i:=((x:Nat):Int)) Tb.zero kq bW cz (fun _=>rfl) oq oq).trans (congrArg (fun cs=>some (aa.pimm cs 0,_)) (cV ((itR q (srI low sto chk ms ms.length).out).getD x Tb.zero)))) ?_ ?_ ?_
 apply qr 2
 refine qY (cw (o:=3) (len:=((((itR q (srI low sto chk ms ms.length).out).take x).filter (keep (itR q (srI low sto chk ms ms.length).out))).length)) (l:=(((itR q (srI low sto chk ms ms.length).out).take x).filter (keep (itR q (srI low sto chk ms ms.length).out)))) (xs:=[((itR q (srI low sto chk ms ms.length).out).getD x Tb.zero)]) (enc:=Tb.v) (sz:=13) (fr:=0) (x:=(.full [.agg (Tb.cs ((itR q (srI low sto chk ms ms.length).out).getD x Tb.zero))])) kq bW cz bW rfl kq rfl rfl kq ⟨by decide,by kernel_rfl⟩ (fun _=>rfl) gv gv) ?_ ?_ ?_
 apply qr 1
 apply qe
 apply ah
 apply ab
 refine qZ [(2,.ptr 0 0),(4,.ptr 1 0),(5,.own 2 0 (srI low sto chk ms ms.length).ps.length),(16,.bool ((((itR q (srI low sto chk ms ms.length).out).take x).any (fun t=>!keep (itR q (srI low sto chk ms ms.length).out) t)))),(17,.own 3 0 ((((itR q (srI low sto chk ms ms.length).out).take x).filter (keep (itR q (srI low sto chk ms ms.length).out)))++[((itR q (srI low sto chk ms ms.length).out).getD x Tb.zero)]).length),(18,nI x)] [.box [.full [],.full []],.box [.imm (sums.map Sm.v),.imm ((itR q (srI low sto chk ms ms.length).out).map Tb.v)],.arr 5 ((srI low sto chk ms ms.length).ps.map Pb.v) 0,.arr 13 (((((itR q (srI low sto chk ms ms.length).out).take x).filter (keep (itR q (srI low sto chk ms ms.length).out)))++[((itR q (srI low sto chk ms ms.length).out).getD x Tb.zero)]).map Tb.v) 0] ?_ ?_
 apply qo
 apply qr 1
 refine qy (aI (a:=((x:Nat):Int)) (b:=1) kq oq oq) ?_ ?_ ?_
 apply qr 1
 apply qe
 refine ab ⟨x+1,?_,?_,⟨⟨kq,kq,kq,(Eq.trans (b:=.bool ((((itR q (srI low sto chk ms ms.length).out).take x).any (fun t=>!keep (itR q (srI low sto chk ms ms.length).out) t)))) kq (by rw [vn (b:=true) oq aq] <;> simp)),(Eq.trans (b:=.own 3 0 ((((itR q (srI low sto chk ms ms.length).out).take x).filter (keep (itR q (srI low sto chk ms ms.length).out)))++[((itR q (srI low sto chk ms ms.length).out).getD x Tb.zero)]).length) kq (by rw [rk (b:=true) oq aq] <;> (show _=_;kernel_rfl))),kq,trivial⟩,by simp [aG,aa.bel],by simp,(Eq.trans (b:=[.box [.full [],.full []],.box [.imm (sums.map Sm.v),.imm ((itR q (srI low sto chk ms ms.length).out).map Tb.v)],.arr 5 ((srI low sto chk ms ms.length).ps.map Pb.v) 0,.arr 13 (((((itR q (srI low sto chk ms ms.length).out).take x).filter (keep (itR q (srI low sto chk ms ms.length).out)))++[((itR q (srI low sto chk ms ms.length).out).getD x Tb.zero)]).map Tb.v) 0]) kq (by rw [rk (b:=true) oq aq] <;> (show _=_;kernel_rfl))),by simp [ai.belO,av,aB,aa.bel,Ty.v,Ex.v,Ct.v,Co.v,Rf.v,Sm.v,Tb.v_cs,Sc.v,Md.v,Pb.v,Ls.v,-List.map_take,-List.map_drop,-List.map_append]⟩⟩
 · omega
 · omega
 iterate 17 kernel_rfl
 apply qf (Bool.eq_false_iff.2 hb15)
 apply qo
 apply qr 1
 apply qe
 apply ah
 apply ab
 apply qz [(2,.ptr 0 0),(4,.ptr 1 0),(5,.own 2 0 (srI low sto chk ms ms.length).ps.length),(16,.bool true),(17,.own 3 0 (((itR q (srI low sto chk ms ms.length).out).take x).filter (keep (itR q (srI low sto chk ms ms.length).out))).length),(18,nI x)]
 apply qo
 apply qr 1
 refine qy (aI (a:=((x:Nat):Int)) (b:=1) kq oq oq) ?_ ?_ ?_
 apply qr 1
 apply qe
 refine ab ⟨x+1,?_,?_,⟨⟨kq,kq,kq,(Eq.trans (b:=.bool true) kq (by rw [vn (b:=false) oq (Bool.eq_false_iff.2 aq)] <;> simp)),(Eq.trans (b:=.own 3 0 (((itR q (srI low sto chk ms ms.length).out).take x).filter (keep (itR q (srI low sto chk ms ms.length).out))).length) kq Bd),kq,trivial⟩,by simp [aG,aa.bel],by simp,(Eq.trans (b:=[.box [.full [],.full []],.box [.imm (sums.map Sm.v),.imm ((itR q (srI low sto chk ms ms.length).out).map Tb.v)],.arr 5 ((srI low sto chk ms ms.length).ps.map Pb.v) 0,.arr 13 ((((itR q (srI low sto chk ms ms.length).out).take x).filter (keep (itR q (srI low sto chk ms ms.length).out))).map Tb.v) 0]) kq Bd),by simp [ai.belO,av,aB,aa.bel,Ty.v,Ex.v,Ct.v,Co.v,Rf.v,Sm.v,Tb.v_cs,Sc.v,Md.v,Pb.v,Ls.v,-List.map_take,-List.map_drop,-List.map_append]⟩⟩
 · omega
 · omega
 iterate 34 kernel_rfl
 apply qf (decide_eq_false hb12)
 refine a6 10 kq kq ?_
 apply af
 apply af
 apply aE
 apply ab
 refine qz [(2,.ptr 0 0),(4,.ptr 1 0),(5,.own 2 0 (srI low sto chk ms ms.length).ps.length),(16,.bool ((((itR q (srI low sto chk ms ms.length).out).take x).any (fun t=>!keep (itR q (srI low sto chk ms ms.length).out) t)))),(17,.own 3 0 (((itR q (srI low sto chk ms ms.length).out).take x).filter (keep (itR q (srI low sto chk ms ms.length).out))).length)] ?_ ?_
 refine pA 17 3 (es:=((((itR q (srI low sto chk ms ms.length).out).take x).filter (keep (itR q (srI low sto chk ms ms.length).out))).map Tb.v)) (off:=0) (len:=((((itR q (srI low sto chk ms ms.length).out).take x).filter (keep (itR q (srI low sto chk ms ms.length).out))).length)) (sz:=13) (fr:=0) ((((itR q (srI low sto chk ms ms.length).out).take x).filter (keep (itR q (srI low sto chk ms ms.length).out))).map Tb.v) kq kq zq kq ?_
 refine qZ [(2,.ptr 0 0),(4,.ptr 1 0),(5,.own 2 0 (srI low sto chk ms ms.length).ps.length),(16,.bool ((((itR q (srI low sto chk ms ms.length).out).take x).any (fun t=>!keep (itR q (srI low sto chk ms ms.length).out) t)))),(17,.imm ((((itR q (srI low sto chk ms ms.length).out).take x).filter (keep (itR q (srI low sto chk ms ms.length).out))).map Tb.v))] [.box [.full [],.full []],.box [.imm (sums.map Sm.v),.imm ((itR q (srI low sto chk ms ms.length).out).map Tb.v)],.arr 5 ((srI low sto chk ms ms.length).ps.map Pb.v) 0,.arr 13 ((((itR q (srI low sto chk ms ms.length).out).take x).filter (keep (itR q (srI low sto chk ms ms.length).out))).map Tb.v) ((((itR q (srI low sto chk ms ms.length).out).take x).filter (keep (itR q (srI low sto chk ms ms.length).out))).map Tb.v).length] ?_ ?_
 apply qo
 apply qr 3
 apply qe
 apply ah
 refine ab ⟨(q+1,(((itR q (srI low sto chk ms ms.length).out).take x).any (fun t=>!keep (itR q (srI low sto chk ms ms.length).out) t))),?_,?_,⟨⟨kq,kq,kq,kq,trivial⟩,by simp [aG,aa.bel],by simp,(Eq.trans (b:=[.box [.full [],.full []],.box [.imm (sums.map Sm.v),.imm ((((itR q (srI low sto chk ms ms.length).out).take x).filter (keep (itR q (srI low sto chk ms ms.length).out))).map Tb.v)],.arr 5 ((srI low sto chk ms ms.length).ps.map Pb.v) 0]) kq (by (try dsimp only);rw [List.take_of_length_le (by omega:(itR q (srI low sto chk ms ms.length).out).length≤x)] <;> (show _=_;kernel_rfl))),by simp [ai.belO,av,aB,aa.bel,Ty.v,Ex.v,Ct.v,Co.v,Rf.v,Sm.v,Tb.v_cs,Sc.v,Md.v,Pb.v,Ls.v,-List.map_take,-List.map_drop,-List.map_append]⟩⟩
 · try dsimp only
   exact B7 aq oq
 · try dsimp only
   exact wR oq
 iterate 23 kernel_rfl
 apply qf (Bool.eq_false_iff.2 hb11)
 refine a6 8 kq kq ?_
 apply af
 apply af
 apply aE
 apply ab
 apply qz [(2,.ptr 0 0),(4,.ptr 1 0),(5,.own 2 0 (srI low sto chk ms ms.length).ps.length)]
 apply qW 4 [(2,.ptr 0 0),(3,.own 2 0 (srI low sto chk ms ms.length).ps.length)] [.box [.imm (sums.map Sm.v),.imm ((itR q (srI low sto chk ms ms.length).out).map Tb.v)],.box [.imm (sums.map Sm.v),.imm ((itR q (srI low sto chk ms ms.length).out).map Tb.v)],.arr 5 ((srI low sto chk ms ms.length).ps.map Pb.v) 0]
 refine cK kq ?_
 refine gH (l:=[.agg [.imm (sums.map Sm.v),.imm ((itR q (srI low sto chk ms ms.length).out).map Tb.v)],.own 2 0 (srI low sto chk ms ms.length).ps.length]) (.inr rfl) kq ?_
 · rw [xx oz (hJ (Bool.eq_false_iff.2 aq))];simp [a8,aa.frz,aZ,tx,Sc.v,Ty.v,Ex.v,Ct.v,Co.v,Rf.v,Sm.v,Tb.v_cs,Sc.v,Md.v,Pb.v,Ls.v]
 iterate 30 kernel_rfl
end Go.Proofs.YtcpklndelobigaaGreatDoor
