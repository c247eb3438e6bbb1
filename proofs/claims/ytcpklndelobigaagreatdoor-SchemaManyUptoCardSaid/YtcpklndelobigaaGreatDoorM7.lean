/- IndexFunc and DeleteFunc over fq, with the closure of From. Conditions: sizes that can be had. -/
import Derived.Test.YtcpklndelobigaaGreatDoorM6
set_option linter.all false
namespace Go.Proofs.YtcpklndelobigaaGreatDoor
open Go.Proofs.YtcpklndelobigaaGreatDoor.Abs
set_option maxRecDepth 20000
set_option maxHeartbeats 4000000
theorem uF {P:Program} {h:ae} {ev:Operand→aa} {op:Op} {t:Nat} {x:aa} {lo hi:Option aa} (hv:qJ ev op=some (t,x,lo,hi)):aK ev op=none∧anx P h ev op=(il P h t lo hi x).map fun r=>[r]:=by
 unfold qJ at hv
 split at hv <;> simp at hv
 obtain ⟨rfl,rfl,rfl,rfl⟩:=hv
 exact ⟨rfl,rfl⟩
section
variable {cx:Cx} {bl:List BOp} {K:Tm→ae→Prop} {S:RSt}
theorem yt {t e o off len a b a' b' sz fr:Nat} {es:List aa} {z z':aa} {k':TyK} {H':ae} (hc:bt bl=true) (hg:bB S.1 (hdB bl).g=some true) (hv:zB (aev cx.G S.1) (hdB bl).op=some (t,.own o off len)) (ht:aN cx.P t=some ⟨.slice e,a,b,z⟩) (he:aN cx.P e=some ⟨k',a',b',z'⟩) (ho:S.2[o]?=some (.arr sz es fr))
 (hl:off+len=es.length) (hf:fr≤off) (hz:z'.cells.length=sz∧z'.cells.all aa.cellOk=true) (hH:S.2.set o (.arr sz (es.take off++List.replicate len (b3 sz)) fr)=H')
 (hk:bS cx bl.tail (bK S.1 (hdB bl).dst (.tup []),H') K):bS cx bl S K:=by
 have hcl:kf cx.P S.2 t (.own o off len)=some H':=by
  simp only [kf,ht,he,ho]
  rw [if_pos ⟨hl,hf,hz.1,hz.2⟩,← hH]
 obtain ⟨g1,g2,g3⟩:=uK hv hcl
 refine lC hc hg (L:=[(.tup [],H')]) g1 g2 g3 ?_
 intro r hr;rw [List.mem_singleton] at hr;subst hr;exact hk
theorem Af {t e o len i a b a' b' sz fr:Nat} {k:IntKind} {es xs:List aa} {z z':aa} {k':TyK} {H':ae} (hc:bt bl=true) (hg:bB S.1 (hdB bl).g=some true) (hv:qJ (aev cx.G S.1) (hdB bl).op=some (t,.own o 0 len,none,some (.int k ((i:Nat):Int)))) (ht:aN cx.P t=some ⟨.slice e,a,b,z⟩) (he:aN cx.P e=some ⟨k',a',b',z'⟩) (ho:S.2[o]?=some (.arr sz es fr))
 (hl:len=es.length) (hsz:sz=a') (hi:i≤len) (hx:es.take i=xs) (hH:S.2.set o (.arr sz es (bif Nat.beq i 0 then fr else es.length))=H')
 (hk:bS cx bl.tail (bK S.1 (hdB bl).dst (.imm xs),H') K):bS cx bl S K:=by
 have hb:cF len none (some (.int k ((i:Nat):Int)))=some (0,i):=by
  have:=iT (len:=len) (lo:=none) (hi:=some (.int k ((i:Nat):Int))) rfl rfl (Int.le_refl 0) oq oq
  simpa using this
 rcases Nat.eq_zero_or_pos i with h0|hp
 · subst h0
   have e1:H'=S.2:=by
    obtain ⟨hlt,hgo⟩:=List.getElem?_eq_some_iff.1 ho
    rw [← hH,show (bif Nat.beq 0 0 then fr else es.length)=fr from rfl,← hgo];exact List.set_getElem_self hlt
   have e2:xs=[]:=by rw [← hx];rfl
   subst e2
   refine kw (v:=.imm []) (h':=H') hc hg ?_ hk
   rw [io hv,e1]
   simp only [eZ,ht,he,ho]
   rw [if_pos ⟨by omega,hsz⟩,hb]
   rfl
 · have hn:¬ Nat.beq i 0=true:=by rw [Nat.beq_eq];omega
   have ha:aop cx.P S.2 (aev cx.G S.1) (hdB bl).op=none:=by
    rw [io hv]
    simp only [eZ,ht,he,ho]
    rw [if_pos ⟨by omega,hsz⟩,hb]
    obtain ⟨j,rfl⟩:∃ j,i=j+1:=⟨i - 1,by omega⟩
    rfl
   have hcal:=uF (P:=cx.P) (h:=S.2) hv
   have hfr:(il cx.P S.2 t none (some (.int k ((i:Nat):Int))) (.own o 0 len))=some (.imm xs,H'):=by
    simp only [il,ht,he,ho]
    rw [if_pos ⟨by omega,hsz⟩,hb]
    simp only [List.drop_zero,hx,← hH,Bool.eq_false_iff.2 hn,cond_false]
   rw [hfr] at hcal
   refine lC hc hg (L:=[(.imm xs,H')]) ha hcal.1 hcal.2 ?_
   intro r hr;rw [List.mem_singleton] at hr;subst hr;exact hk
end
section
variable {P:Program} {ev:Operand→aa} {op:Op} {h:ae}
theorem yd {t e o off len i a b a' b' sz fr:Nat} {es:List aa} {z z':aa} {k':TyK} {k:IntKind} (hv:qJ ev op=some (t,.own o off len,some (.int k ((i:Nat):Int)),none)) (ht:aN P t=some ⟨.slice e,a,b,z⟩) (he:aN P e=some ⟨k',a',b',z'⟩) (ho:h[o]?=some (.arr sz es fr)) (hl:off+len=es.length) (hsz:sz=a') (hi:i≤len) :
 aop P h ev op=some (.own o (off+i) (len - i),h):=by
 rw [io hv]
 have hb:cF len (some (.int k ((i:Nat):Int))) none=some (i,len):=by
  have:=iT (len:=len) (lo:=some (.int k ((i:Nat):Int))) (hi:=none) rfl rfl oq oq (Int.le_refl _)
  simpa using this
 simp only [eZ,ht,he,ho]
 rw [if_pos ⟨hl,hsz⟩,hb]
 rfl
end
theorem Tb.v_v (t:Tb):t.v=.agg t.cs:=rfl
theorem rb (t:Tb):t.v.cells.length=13∧t.v.cells.all aa.cellOk=true:=⟨rfl,rfl⟩
theorem od (p q:Tb):p.v.withCells q.v.cells=some q.v:=rfl
@[simp] theorem CH (k i:Nat) (a:List Tb):av k ((a.map Tb.v).take i)=true:=by rw [← List.map_take];exact js k _
@[simp] theorem bE (k:Nat):∀ n,av k (List.replicate n (b3 13))=true
 | 0=>rfl
 | n+1=>by rw [List.replicate_succ,av,bE k n];rfl
def hpT (sums:List Sm) (M:Tm_) (s:BP) (W:List (List UInt8×Bool)) (l:List Tb):ae:=hpG sums M s W++[.arr 13 (l.map Tb.v) 0]
theorem vL {α:Type} (l:List α) (d:α) (k:Nat):l.getD (0+k) d=l.getD k d:=by rw [Nat.zero_add]
theorem BV {l:List Tb} (h:∀ t∈l,t.ok) {k:Nat} (hk:k<l.length):(l.getD (0+k) Tb.zero).ok:=by rw [Nat.zero_add];exact h _ (c5 _ _ _ hk)
structure Del (p:Tb→Bool) (l a:List Tb) (i j:Nat):Prop where
 len:a.length=l.length
 lt:i<j
 le:j≤l.length
 kept:a.take i=(l.take j).filter (fun t=>!p t)
 rest:a.drop j=l.drop j
theorem Del.at {p:Tb→Bool} {l a:List Tb} {i j:Nat} (h:Del p l a i j) (hj:j<l.length):a.getD (0+j) Tb.zero=l.getD j Tb.zero:=by
 have h1:=congrArg (fun q=>q[0]?) h.rest
 simp only [List.getElem?_drop,Nat.add_zero] at h1
 rw [Nat.zero_add,List.getD_eq_getElem?_getD,List.getD_eq_getElem?_getD,h1]
theorem Del.go {p:Tb→Bool} {l a:List Tb} {i j:Nat} (h:Del p l a i j) (hj:j<l.length) (hp:p (a.getD (0+j) Tb.zero)=true):Del p l a i (j+1):=by
 rw [h.at hj] at hp
 refine ⟨h.len,by have:=h.lt;omega,hj,?_,?_⟩
 · rw [h.kept,bZ l Tb.zero j hj,List.filter_append,List.filter_cons_of_neg (by rw [hp];decide),List.filter_nil,List.append_nil]
 · have:=congrArg (List.drop 1) h.rest
   simpa [List.drop_drop] using this
theorem Del.keep {p:Tb→Bool} {l a:List Tb} {i j:Nat} (h:Del p l a i j) (hj:j<l.length) (hp:¬ p (a.getD (0+j) Tb.zero)=true):Del p l (a.set (0+i) (a.getD (0+j) Tb.zero)) (i+1) (j+1):=by
 have hlt:=h.lt
 have hlen:=h.len
 have hat:=h.at hj
 rw [hat] at hp ⊢
 rw [Nat.zero_add]
 refine ⟨by rw [List.length_set];exact h.len,by omega,hj,?_,?_⟩
 · rw [bZ _ Tb.zero i (by rw [List.length_set];omega),List.take_set_of_le (Nat.le_refl i),h.kept,bZ l Tb.zero j hj,List.filter_append,List.filter_cons_of_pos (by simpa using hp),List.filter_nil,lN _ _ _ _ _ oq,if_pos rfl]
 · have:=congrArg (List.drop 1) h.rest
   rw [List.drop_set_of_lt oq]
   simpa [List.drop_drop] using this
theorem Del.init {p:Tb→Bool} {l:List Tb} (h:l.any p=true):Del p l l (cO p l).toNat ((cO p l).toNat+1)∧cO p l=(((cO p l).toNat:Nat):Int)∧(cO p l).toNat<l.length:=by
 unfold cO
 cases e:l.findIdx? p with
 | none =>
  rw [List.findIdx?_eq_none_iff] at e
  rw [List.any_eq_true] at h
  obtain ⟨x,h1,h2⟩:=h
  rw [e x h1] at h2;cases h2
 | some i =>
  obtain ⟨h1,h2,h3⟩:=List.findIdx?_eq_some_iff_getElem.1 e
  refine ⟨⟨rfl,Nat.lt_succ_self _,h1,?_,rfl⟩,rfl,h1⟩
  show l.take i=(l.take (i+1)).filter _
  have hall:(l.take i).filter (fun t=>!p t)=l.take i:=by
   rw [List.filter_eq_self]
   intro x hx
   obtain ⟨j,hj,rfl⟩:=List.getElem_of_mem hx
   rw [List.length_take] at hj
   have:=h3 j oq
   rw [List.getElem_take];simpa using this
  rw [bZ l Tb.zero i h1,List.filter_append,hall,List.filter_cons_of_neg (by rw [bJ l _ _ h1,h2];simp),List.filter_nil,List.append_nil]
theorem uW {p:Tb→Bool} {l:List Tb} (h:¬ l.any p=true):cO p l=-1:=by
 unfold cO
 rw [List.findIdx?_eq_none_iff.2 (fun x hx=>by
  cases e:p x with
  | false=>rfl
  | true=>exact absurd (List.any_eq_true.2 ⟨x,hx,e⟩) h)]
theorem Del.fin {p:Tb→Bool} {l a:List Tb} {i j:Nat} (h:Del p l a i j) (hj:¬ j<l.length):a.take i=l.filter (fun t=>!p t):=by
 have:=h.kept
 rw [List.take_of_length_le (by omega:l.length≤j)] at this
 exact this
theorem Del.cnt {p:Tb→Bool} {l a:List Tb} {i j:Nat} (h:Del p l a i j) (hj:¬ j<l.length):i=(l.filter (fun t=>!p t)).length:=by
 rw [← h.fin hj,List.length_take,h.len];have:=h.lt;have:=h.le;omega
theorem vY {a F:List Tb} {i:Nat} {R:List aa} (hi:i≤a.length) (h:a.take i=F):((a.map Tb.v).take (0+i)++R).take i=F.map Tb.v:=by
 rw [Nat.zero_add,List.take_append_of_le_length (by rw [List.length_take,List.length_map];omega),List.take_take,Nat.min_self,← List.map_take,h]
theorem x9 {l a F:List Tb} {i:Nat} (hi:i≤a.length) (hl:a.length=l.length) (h:a.take i=F):((a.map Tb.v).take (0+i)++List.replicate (l.length - i) (b3 13))=F.map Tb.v++List.replicate (l.length - F.length) (b3 13):=by
 rw [Nat.zero_add,← List.map_take,h,← h,List.length_take,Nat.min_eq_left hi]
def hpD (sums:List Sm) (M:Tm_) (s:BP) (W:List (List UInt8×Bool)) (l F:List Tb):ae:=hpG sums M s W++[.arr 13 (F.map Tb.v++List.replicate (l.length - F.length) (b3 13)) (bif Nat.beq F.length 0 then 0 else (F.map Tb.v++List.replicate (l.length - F.length) (b3 13)).length)]
noncomputable def c82:Code:=aT Tryz.f82
theorem gD {p:Prop} (h:p:=by simp [ai.belO,hpT,hpG,hpF,av,aa.bel,Ty.v,Ex.v,Ct.v,Co.v,Rf.v,Sm.v,Tb.v_cs,Sc.v,Md.v,Pb.v,Ls.v,-List.map_take,-List.map_drop,-List.map_append,-List.map_set]):p:=h
theorem AR {p:Prop} (h:p:=by show aa.int _ _=aa.int _ _;first|rw [← ik (p:=bF s.1 W) Tb.zero (l:=l) (k:=k) oq ha (by rw [← vL];assumption)]|rw [← hX (p:=bF s.1 W) Tb.zero (l:=l) (fun i hi=>ha i oq)]):p:=h
theorem sw (sums:List Sm) (M:Tm_) (s:BP) (W:List (List UInt8×Bool)) (l:List Tb) (hl:l.length<1000) (hok:∀ t∈l,t.ok):aL cx 82 [.own 8 0 l.length,.fn (.func 30) [] [.ptr 4 0,.ptr 6 0]] (hpT sums M s W l) (fun v h=>v=(.int .i64 (cO (bF s.1 W) l))∧h=hpT sums M s W l):=by
 refine aC (cx:=cx) 19 9 [(ResultVar.tmp 4)] Tryz.func82 rfl rfl rfl rfl rfl zq ?_
 show wpA cx 19 9 (at_ c82 []) _ _ _
 apply qZ [(0,.own 8 0 l.length),(1,.fn (.func 30) [] [.ptr 4 0,.ptr 6 0])] [.box [.imm (sums.map Sm.v),.map 1,.map 2,.own 3 0 s.2.length],.map (ac aa.str Tb.v M),.map (ac aa.str aa.bool s.1),.arr 5 (s.2.map Pb.v) 0,.box [.ptr 0 0],.box [.full [],.full []],.box [.map 7],.map (ac aa.str aa.bool W),.arr 13 (l.map Tb.v) 0]
 apply qU 1 [(0,.own 8 0 l.length),(1,.fn (.func 30) [] [.ptr 4 0,.ptr 6 0])]
 apply az
 apply qV 1
 refine qy (gG (o:=8) (off:=0) (len:=l.length) (sz:=13) (es:=(l.map Tb.v)) (fr:=0) kq bW kq zq) ?_ ?_ ?_
 apply qR 1 [(0,.own 8 0 l.length),(1,.fn (.func 30) [] [.ptr 4 0,.ptr 6 0]),(7,nI l.length),(8,.int .i64 0)] [.box [.imm (sums.map Sm.v),.map 1,.map 2,.own 3 0 s.2.length],.map (ac aa.str Tb.v M),.map (ac aa.str aa.bool s.1),.arr 5 (s.2.map Pb.v) 0,.box [.ptr 0 0],.box [.full [],.full []],.box [.map 7],.map (ac aa.str aa.bool W),.arr 13 (l.map Tb.v) 0]
 apply qB 0
 refine bn (σ:=Nat) (fun k=>[(0,.own 8 0 l.length),(1,.fn (.func 30) [] [.ptr 4 0,.ptr 6 0]),(7,.int .i64 ((l.length:Nat):Int)),(8,.int .i64 ((k:Nat):Int))]) (fun k=>[.box [.imm (sums.map Sm.v),.map 1,.map 2,.own 3 0 s.2.length],.map (ac aa.str Tb.v M),.map (ac aa.str aa.bool s.1),.arr 5 (s.2.map Pb.v) 0,.box [.ptr 0 0],.box [.full [],.full []],.box [.map 7],.map (ac aa.str aa.bool W),.arr 13 (l.map Tb.v) 0]) (fun k=>k≤l.length∧∀ i,i<k→¬ bF s.1 W (l.getD i Tb.zero)=true) (fun k=>l.length - k) 0 kq (by exact ⟨Nat.zero_le _,fun i h=>absurd h (Nat.not_lt_zero i)⟩) ⟨⟨kq,kq,kq,kq,trivial⟩,by simp [aG,aa.bel],by simp,kq,by simp [ai.belO,hpT,hpG,hpF,av,aa.bel,Ty.v,Ex.v,Ct.v,Co.v,Rf.v,Sm.v,Tb.v_cs,Sc.v,Md.v,Pb.v,Ls.v,-List.map_take,-List.map_drop,-List.map_append,-List.map_set]⟩ ?_
 rintro k ⟨hk,ha⟩
 apply qW 1 [(0,.own 8 0 l.length),(1,.fn (.func 30) [] [.ptr 4 0,.ptr 6 0]),(7,nI l.length),(8,nI k),(9,.bool (decide (((k:Nat):Int)<((l.length:Nat):Int))))] [.box [.imm (sums.map Sm.v),.map 1,.map 2,.own 3 0 s.2.length],.map (ac aa.str Tb.v M),.map (ac aa.str aa.bool s.1),.arr 5 (s.2.map Pb.v) 0,.box [.ptr 0 0],.box [.full [],.full []],.box [.map 7],.map (ac aa.str aa.bool W),.arr 13 (l.map Tb.v) 0]
 apply az
 by_cases hb1:((k:Nat):Int)<((l.length:Nat):Int)
 apply qt (decide_eq_true hb1)
 apply qK
 apply qz [(0,.own 8 0 l.length),(1,.fn (.func 30) [] [.ptr 4 0,.ptr 6 0]),(7,nI l.length),(8,nI k)]
 apply az
 apply qB 1
 apply qU 2 [(0,.own 8 0 l.length),(1,.fn (.func 30) [] [.ptr 4 0,.ptr 6 0]),(5,nI k),(7,nI l.length),(8,nI k)]
 apply qV 3
 refine qy (eB (k:=.i64) (i:=((k:Nat):Int)) (o:=8) (off:=0) (len:=l.length) (sz:=13) (fr:=0) (es:=(l.map Tb.v)) kq bW cz kq rfl zq oq oq) ?_ ?_ ?_
 refine qy (im (t:=52) (o:=8) (idx:=(0+k)) (off:=0) (k:=((l.map Tb.v).length)) (sz:=13) (fr:=0) (es:=(l.map Tb.v)) (x:=Tb.v (l.getD (0+k) Tb.zero)) (v:=.agg (Tb.cs (l.getD (0+k) Tb.zero))) kq kq zq (hZ _ _ _ _ oq) (by rw [cV];exact kq)) ?_ ?_ ?_
 refine b7 (args:=[.agg (Tb.cs (l.getD (0+k) Tb.zero)),.ptr 4 0,.ptr 6 0]) (hs:=[.box [.imm (sums.map Sm.v),.map 1,.map 2,.own 3 0 s.2.length],.map (ac aa.str Tb.v M),.map (ac aa.str aa.bool s.1),.arr 5 (s.2.map Pb.v) 0,.box [.ptr 0 0],.box [.full [],.full []],.box [.map 7],.map (ac aa.str aa.bool W)]) (hs':=[.box [.imm (sums.map Sm.v),.map 1,.map 2,.own 3 0 s.2.length],.map (ac aa.str Tb.v M),.map (ac aa.str aa.bool s.1),.arr 5 (s.2.map Pb.v) 0,.box [.ptr 0 0],.box [.full [],.full []],.box [.map 7],.map (ac aa.str aa.bool W)]) (rest:=[.arr 13 (l.map Tb.v) 0]) kq kq kq kq kq (vF sums M s W (l.getD (0+k) Tb.zero) (BV hok oq)) gD gD rfl gD gD kq ?_
 apply qN [(0,.own 8 0 l.length),(1,.fn (.func 30) [] [.ptr 4 0,.ptr 6 0]),(5,nI k),(7,nI l.length),(8,nI k),(16,.bool (bF s.1 W (l.getD (0+k) Tb.zero)))] [.box [.imm (sums.map Sm.v),.map 1,.map 2,.own 3 0 s.2.length],.map (ac aa.str Tb.v M),.map (ac aa.str aa.bool s.1),.arr 5 (s.2.map Pb.v) 0,.box [.ptr 0 0],.box [.full [],.full []],.box [.map 7],.map (ac aa.str aa.bool W),.arr 13 (l.map Tb.v) 0]
 by_cases hb2:(bF s.1 W (l.getD (0+k) Tb.zero))=true
 apply qt (hb2)
 apply qU 2 [(4,nI k)]
 refine cK kq ?_
 apply iR
 apply aR
 apply aR
 apply iR
 apply aR
 refine dg (l:=[.int .i64 ((k:Nat):Int)]) (.inr rfl) kq AR (by simp [a8]) (by simp [a8]) ?_ ?_
 refine Eq.trans (b:=[.box [.imm (sums.map Sm.v),.map 1,.map 2,.own 3 0 s.2.length],.map (ac aa.str Tb.v M),.map (ac aa.str aa.bool s.1),.arr 5 (s.2.map Pb.v) 0,.box [.ptr 0 0],.box [.full [],.full []],.box [.map 7],.map (ac aa.str aa.bool W),.arr 13 (l.map Tb.v) 0]) kq ?_
 · rfl
 rotate_left
 iterate 2 kernel_rfl
 apply qf (Bool.eq_false_iff.2 hb2)
 apply qk
 apply ah
 apply ab
 apply qz [(0,.own 8 0 l.length),(1,.fn (.func 30) [] [.ptr 4 0,.ptr 6 0]),(7,nI l.length),(8,nI k)]
 apply qo
 refine qy (aI (a:=((k:Nat):Int)) (b:=1) kq oq oq) ?_ ?_ ?_
 apply qr 1
 apply qe
 refine ab ⟨k+1,?_,?_,⟨⟨kq,kq,kq,kq,trivial⟩,by simp [aG,aa.bel],by simp,kq,by simp [ai.belO,hpT,hpG,hpF,av,aa.bel,Ty.v,Ex.v,Ct.v,Co.v,Rf.v,Sm.v,Tb.v_cs,Sc.v,Md.v,Pb.v,Ls.v,-List.map_take,-List.map_drop,-List.map_append,-List.map_set]⟩⟩
 · omega
 · refine ⟨by omega,fun i hi=>?_⟩
   rcases Nat.lt_succ_iff_lt_or_eq.1 hi with h|h
   · exact ha i h
   · subst h;rw [← vL];assumption
 iterate 21 kernel_rfl
 apply qf (decide_eq_false hb1)
 refine a6 0 kq kq ?_
 apply af
 apply af
 apply aE
 apply ab
 apply qz []
 apply qU 1 [(4,.int .i64 (-1))]
 refine cK kq ?_
 refine dg (l:=[.int .i64 (-1)]) (.inr rfl) kq AR (by simp [a8]) (by simp [a8]) ?_ ?_
 refine Eq.trans (b:=[.box [.imm (sums.map Sm.v),.map 1,.map 2,.own 3 0 s.2.length],.map (ac aa.str Tb.v M),.map (ac aa.str aa.bool s.1),.arr 5 (s.2.map Pb.v) 0,.box [.ptr 0 0],.box [.full [],.full []],.box [.map 7],.map (ac aa.str aa.bool W),.arr 13 (l.map Tb.v) 0]) kq ?_
 · rfl
 rotate_left
 iterate 14 kernel_rfl
 all_goals
  simp [ai.belO,hpT,hpG,hpF,av,aa.bel,Ty.v,Ex.v,Ct.v,Co.v,Rf.v,Sm.v,Tb.v_cs,Sc.v,Md.v,Pb.v,Ls.v,-List.map_take,-List.map_drop,-List.map_append,-List.map_set]
noncomputable def c28:Code:=aT Tryz.f28
theorem BC {p:Prop} (h:p:=by simp [a8,-List.map_append,-List.map_take,-List.map_drop,-List.append_assoc]):p:=h
theorem Ah (sums:List Sm) (M:Tm_) (s:BP) (W:List (List UInt8×Bool)) (l:List Tb) (hl:l.length<1000) (hok:∀ t∈l,t.ok) (hn:¬ l.any (bF s.1 W)=true):aL cx 28 [.own 8 0 l.length,.fn (.func 30) [] [.ptr 4 0,.ptr 6 0]] (hpT sums M s W l) (fun v h=>v=.own 8 0 l.length∧h=hpT sums M s W l):=by
 refine eJ (cx:=cx) 42 9 [(ResultVar.tmp 4)] Tryz.func28 rfl rfl rfl rfl rfl zq ?_
 show wpA cx 42 9 (at_ c28 []) _ _ _
 apply qZ [(0,.own 8 0 l.length),(1,.fn (.func 30) [] [.ptr 4 0,.ptr 6 0])] [.box [.imm (sums.map Sm.v),.map 1,.map 2,.own 3 0 s.2.length],.map (ac aa.str Tb.v M),.map (ac aa.str aa.bool s.1),.arr 5 (s.2.map Pb.v) 0,.box [.ptr 0 0],.box [.full [],.full []],.box [.map 7],.map (ac aa.str aa.bool W),.arr 13 (l.map Tb.v) 0]
 apply qU 1 [(0,.own 8 0 l.length),(1,.fn (.func 30) [] [.ptr 4 0,.ptr 6 0])]
 apply qV 2
 refine b7 (args:=[.own 8 0 l.length,.fn (.func 30) [] [.ptr 4 0,.ptr 6 0]]) (hs:=[.box [.imm (sums.map Sm.v),.map 1,.map 2,.own 3 0 s.2.length],.map (ac aa.str Tb.v M),.map (ac aa.str aa.bool s.1),.arr 5 (s.2.map Pb.v) 0,.box [.ptr 0 0],.box [.full [],.full []],.box [.map 7],.map (ac aa.str aa.bool W),.arr 13 (l.map Tb.v) 0]) (hs':=[.box [.imm (sums.map Sm.v),.map 1,.map 2,.own 3 0 s.2.length],.map (ac aa.str Tb.v M),.map (ac aa.str aa.bool s.1),.arr 5 (s.2.map Pb.v) 0,.box [.ptr 0 0],.box [.full [],.full []],.box [.map 7],.map (ac aa.str aa.bool W),.arr 13 (l.map Tb.v) 0]) (rest:=[]) kq kq kq kq kq (sw sums M s W l hl hok) gD gD rfl gD gD kq ?_
 apply qR 1 [(0,.own 8 0 l.length),(1,.fn (.func 30) [] [.ptr 4 0,.ptr 6 0]),(5,.int .i64 (cO (bF s.1 W) l))] [.box [.imm (sums.map Sm.v),.map 1,.map 2,.own 3 0 s.2.length],.map (ac aa.str Tb.v M),.map (ac aa.str aa.bool s.1),.arr 5 (s.2.map Pb.v) 0,.box [.ptr 0 0],.box [.full [],.full []],.box [.map 7],.map (ac aa.str aa.bool W),.arr 13 (l.map Tb.v) 0]
 apply az
 apply qU 2 [(0,.own 8 0 l.length),(1,.fn (.func 30) [] [.ptr 4 0,.ptr 6 0]),(5,.int .i64 (cO (bF s.1 W) l)),(12,.bool ((cO (bF s.1 W) l)==(-1)))]
 by_cases hb1:(cO (bF s.1 W) l)=(-1)
 apply qt (beq_iff_eq.2 hb1)
 apply qU 2 [(4,.own 8 0 l.length)]
 refine cK kq ?_
 apply aR
 refine yG (l:=[.own 8 0 l.length]) 9 [.box [.imm (sums.map Sm.v),.map 1,.map 2,.own 3 0 s.2.length],.map (ac aa.str Tb.v M),.map (ac aa.str aa.bool s.1),.arr 5 (s.2.map Pb.v) 0,.box [.ptr 0 0],.box [.full [],.full []],.box [.map 7],.map (ac aa.str aa.bool W),.arr 13 (l.map Tb.v) 0] (.inr rfl) kq dq kq BC gD ?_
 · exact ⟨rfl,rfl⟩
 iterate 2 kernel_rfl
 · exfalso;exact hb1 (uW hn)
 iterate 6 kernel_rfl
theorem vj (sums:List Sm) (M:Tm_) (s:BP) (W:List (List UInt8×Bool)) (l:List Tb) (hl:l.length<1000) (hok:∀ t∈l,t.ok) (hn:l.any (bF s.1 W)=true):aL cx 28 [.own 8 0 l.length,.fn (.func 30) [] [.ptr 4 0,.ptr 6 0]] (hpT sums M s W l) (fun v h=>v=.imm ((l.filter (fun t=>!bF s.1 W t)).map Tb.v)∧h=hpD sums M s W l (l.filter (fun t=>!bF s.1 W t))):=by
 have hix:=Del.init hn
 refine eJ (cx:=cx) 42 9 [(ResultVar.tmp 4)] Tryz.func28 rfl rfl rfl rfl rfl zq ?_
 show wpA cx 42 9 (at_ c28 []) _ _ _
 apply qZ [(0,.own 8 0 l.length),(1,.fn (.func 30) [] [.ptr 4 0,.ptr 6 0])] [.box [.imm (sums.map Sm.v),.map 1,.map 2,.own 3 0 s.2.length],.map (ac aa.str Tb.v M),.map (ac aa.str aa.bool s.1),.arr 5 (s.2.map Pb.v) 0,.box [.ptr 0 0],.box [.full [],.full []],.box [.map 7],.map (ac aa.str aa.bool W),.arr 13 (l.map Tb.v) 0]
 apply qU 1 [(0,.own 8 0 l.length),(1,.fn (.func 30) [] [.ptr 4 0,.ptr 6 0])]
 apply qV 2
 refine b7 (args:=[.own 8 0 l.length,.fn (.func 30) [] [.ptr 4 0,.ptr 6 0]]) (hs:=[.box [.imm (sums.map Sm.v),.map 1,.map 2,.own 3 0 s.2.length],.map (ac aa.str Tb.v M),.map (ac aa.str aa.bool s.1),.arr 5 (s.2.map Pb.v) 0,.box [.ptr 0 0],.box [.full [],.full []],.box [.map 7],.map (ac aa.str aa.bool W),.arr 13 (l.map Tb.v) 0]) (hs':=[.box [.imm (sums.map Sm.v),.map 1,.map 2,.own 3 0 s.2.length],.map (ac aa.str Tb.v M),.map (ac aa.str aa.bool s.1),.arr 5 (s.2.map Pb.v) 0,.box [.ptr 0 0],.box [.full [],.full []],.box [.map 7],.map (ac aa.str aa.bool W),.arr 13 (l.map Tb.v) 0]) (rest:=[]) kq kq kq kq kq (sw sums M s W l hl hok) gD gD rfl gD gD kq ?_
 apply qR 1 [(0,.own 8 0 l.length),(1,.fn (.func 30) [] [.ptr 4 0,.ptr 6 0]),(5,.int .i64 (cO (bF s.1 W) l))] [.box [.imm (sums.map Sm.v),.map 1,.map 2,.own 3 0 s.2.length],.map (ac aa.str Tb.v M),.map (ac aa.str aa.bool s.1),.arr 5 (s.2.map Pb.v) 0,.box [.ptr 0 0],.box [.full [],.full []],.box [.map 7],.map (ac aa.str aa.bool W),.arr 13 (l.map Tb.v) 0]
 apply az
 apply qU 2 [(0,.own 8 0 l.length),(1,.fn (.func 30) [] [.ptr 4 0,.ptr 6 0]),(5,.int .i64 (cO (bF s.1 W) l)),(12,.bool ((cO (bF s.1 W) l)==(-1)))]
 by_cases hb1:(cO (bF s.1 W) l)=(-1)
 · exfalso;have:=hix.2.1;omega
 apply qf (beq_eq_false_iff_ne.2 hb1)
 apply qK
 apply qz [(0,.own 8 0 l.length),(1,.fn (.func 30) [] [.ptr 4 0,.ptr 6 0]),(5,.int .i64 (cO (bF s.1 W) l))]
 apply az
 apply qV 1
 refine qy (aI (a:=(cO (bF s.1 W) l)) (b:=1) kq oq oq) ?_ ?_ ?_
 apply qR 1 [(0,.own 8 0 l.length),(1,.fn (.func 30) [] [.ptr 4 0,.ptr 6 0]),(5,.int .i64 (cO (bF s.1 W) l)),(6,.int .i64 ((cO (bF s.1 W) l)+1))] [.box [.imm (sums.map Sm.v),.map 1,.map 2,.own 3 0 s.2.length],.map (ac aa.str Tb.v M),.map (ac aa.str aa.bool s.1),.arr 5 (s.2.map Pb.v) 0,.box [.ptr 0 0],.box [.full [],.full []],.box [.map 7],.map (ac aa.str aa.bool W),.arr 13 (l.map Tb.v) 0]
 apply qB 0
 refine bn (σ:=(List Tb×Nat×Nat)) (fun ⟨a,i,j⟩=>[(0,.own 8 0 l.length),(1,.fn (.func 30) [] [.ptr 4 0,.ptr 6 0]),(5,.int .i64 ((i:Nat):Int)),(6,.int .i64 ((j:Nat):Int))]) (fun ⟨a,i,j⟩=>[.box [.imm (sums.map Sm.v),.map 1,.map 2,.own 3 0 s.2.length],.map (ac aa.str Tb.v M),.map (ac aa.str aa.bool s.1),.arr 5 (s.2.map Pb.v) 0,.box [.ptr 0 0],.box [.full [],.full []],.box [.map 7],.map (ac aa.str aa.bool W),.arr 13 (a.map Tb.v) 0]) (fun ⟨a,i,j⟩=>Del (bF s.1 W) l a i j) (fun ⟨a,i,j⟩=>l.length - j) (l,(cO (bF s.1 W) l).toNat,(cO (bF s.1 W) l).toNat+1) kq (by exact hix.1) ⟨⟨kq,kq,(Eq.trans (b:=.int .i64 (cO (bF s.1 W) l)) kq (by exact congrArg (aa.int .i64) hix.2.1)),(Eq.trans (b:=.int .i64 ((cO (bF s.1 W) l)+1)) kq (by exact congrArg (aa.int .i64) (by have:=hix.2.1;omega))),trivial⟩,by simp [aG,aa.bel],by simp,kq,by simp [ai.belO,hpT,hpG,hpF,av,aa.bel,Ty.v,Ex.v,Ct.v,Co.v,Rf.v,Sm.v,Tb.v_cs,Sc.v,Md.v,Pb.v,Ls.v,-List.map_take,-List.map_drop,-List.map_append,-List.map_set]⟩ ?_
 rintro ⟨a,i,j⟩ hD
 have hal:=hD.len
 have hij:=hD.lt
 have hjl:=hD.le
 apply qZ [(0,.own 8 0 l.length),(1,.fn (.func 30) [] [.ptr 4 0,.ptr 6 0]),(5,nI i),(6,nI j)] [.box [.imm (sums.map Sm.v),.map 1,.map 2,.own 3 0 s.2.length],.map (ac aa.str Tb.v M),.map (ac aa.str aa.bool s.1),.arr 5 (s.2.map Pb.v) 0,.box [.ptr 0 0],.box [.full [],.full []],.box [.map 7],.map (ac aa.str aa.bool W),.arr 13 (a.map Tb.v) 0]
 apply az
 apply qV 2
 refine qy (gG (o:=8) (off:=0) (len:=l.length) (sz:=13) (es:=(a.map Tb.v)) (fr:=0) kq bW kq (by simp [hal])) ?_ ?_ ?_
 apply qR 1 [(0,.own 8 0 l.length),(1,.fn (.func 30) [] [.ptr 4 0,.ptr 6 0]),(5,nI i),(6,nI j),(19,.bool (decide (((j:Nat):Int)<((l.length:Nat):Int))))] [.box [.imm (sums.map Sm.v),.map 1,.map 2,.own 3 0 s.2.length],.map (ac aa.str Tb.v M),.map (ac aa.str aa.bool s.1),.arr 5 (s.2.map Pb.v) 0,.box [.ptr 0 0],.box [.full [],.full []],.box [.map 7],.map (ac aa.str aa.bool W),.arr 13 (a.map Tb.v) 0]
 by_cases hb2:((j:Nat):Int)<((l.length:Nat):Int)
 apply qt (decide_eq_true hb2)
 apply qK
 apply qz [(0,.own 8 0 l.length),(1,.fn (.func 30) [] [.ptr 4 0,.ptr 6 0]),(5,nI i),(6,nI j)]
 apply az
 apply qB 1
 apply qV 2
 refine qy (eB (k:=.i64) (i:=((j:Nat):Int)) (o:=8) (off:=0) (len:=l.length) (sz:=13) (fr:=0) (es:=(a.map Tb.v)) kq bW cz kq rfl (by simp [hal]) oq oq) ?_ ?_ ?_
 refine qy (im (t:=52) (o:=8) (idx:=(0+j)) (off:=0) (k:=((a.map Tb.v).length)) (sz:=13) (fr:=0) (es:=(a.map Tb.v)) (x:=Tb.v (a.getD (0+j) Tb.zero)) (v:=.agg (Tb.cs (a.getD (0+j) Tb.zero))) kq kq zq (hZ _ _ _ _ oq) (by rw [cV];exact kq)) ?_ ?_ ?_
 apply qR 2 [(0,.own 8 0 l.length),(1,.fn (.func 30) [] [.ptr 4 0,.ptr 6 0]),(5,nI i),(6,nI j),(7,.ptr 9 0)] [.box [.imm (sums.map Sm.v),.map 1,.map 2,.own 3 0 s.2.length],.map (ac aa.str Tb.v M),.map (ac aa.str aa.bool s.1),.arr 5 (s.2.map Pb.v) 0,.box [.ptr 0 0],.box [.full [],.full []],.box [.map 7],.map (ac aa.str aa.bool W),.arr 13 (a.map Tb.v) 0,.box (Tb.cs (a.getD (0+j) Tb.zero))]
 apply qV 2
 refine b7 (args:=[.agg (Tb.cs (a.getD (0+j) Tb.zero)),.ptr 4 0,.ptr 6 0]) (hs:=[.box [.imm (sums.map Sm.v),.map 1,.map 2,.own 3 0 s.2.length],.map (ac aa.str Tb.v M),.map (ac aa.str aa.bool s.1),.arr 5 (s.2.map Pb.v) 0,.box [.ptr 0 0],.box [.full [],.full []],.box [.map 7],.map (ac aa.str aa.bool W)]) (hs':=[.box [.imm (sums.map Sm.v),.map 1,.map 2,.own 3 0 s.2.length],.map (ac aa.str Tb.v M),.map (ac aa.str aa.bool s.1),.arr 5 (s.2.map Pb.v) 0,.box [.ptr 0 0],.box [.full [],.full []],.box [.map 7],.map (ac aa.str aa.bool W)]) (rest:=[.arr 13 (a.map Tb.v) 0,.box (Tb.cs (a.getD (0+j) Tb.zero))]) kq kq kq kq kq (vF sums M s W (a.getD (0+j) Tb.zero) (by rw [hD.at oq];exact hok _ (c5 _ _ _ oq))) gD gD rfl gD gD kq ?_
 apply qR 1 [(0,.own 8 0 l.length),(1,.fn (.func 30) [] [.ptr 4 0,.ptr 6 0]),(5,nI i),(6,nI j),(7,.ptr 9 0),(29,.bool (!(bF s.1 W (a.getD (0+j) Tb.zero))))] [.box [.imm (sums.map Sm.v),.map 1,.map 2,.own 3 0 s.2.length],.map (ac aa.str Tb.v M),.map (ac aa.str aa.bool s.1),.arr 5 (s.2.map Pb.v) 0,.box [.ptr 0 0],.box [.full [],.full []],.box [.map 7],.map (ac aa.str aa.bool W),.arr 13 (a.map Tb.v) 0,.box (Tb.cs (a.getD (0+j) Tb.zero))]
 by_cases hb3:(bF s.1 W (a.getD (0+j) Tb.zero))=true
 refine qf (x:=(!(bF s.1 W (a.getD (0+j) Tb.zero)))) (congrArg not (hb3)) ?_ ?_
 apply qk
 apply ah
 apply ab
 apply qz [(0,.own 8 0 l.length),(1,.fn (.func 30) [] [.ptr 4 0,.ptr 6 0]),(5,nI i),(6,nI j)]
 apply qo
 apply qr 1
 refine qy (aI (a:=((j:Nat):Int)) (b:=1) kq oq oq) ?_ ?_ ?_
 apply qr 1
 apply qe
 refine ab ⟨(a,i,(j+1)),?_,?_,⟨⟨kq,kq,kq,kq,trivial⟩,by simp [aG,aa.bel],by simp,kq,by simp [ai.belO,hpT,hpG,hpF,av,aa.bel,Ty.v,Ex.v,Ct.v,Co.v,Rf.v,Sm.v,Tb.v_cs,Sc.v,Md.v,Pb.v,Ls.v,-List.map_take,-List.map_drop,-List.map_append,-List.map_set]⟩⟩
 · try dsimp only
   omega
 rotate_left
 iterate 9 kernel_rfl
 refine qt (x:=(!(bF s.1 W (a.getD (0+j) Tb.zero)))) (congrArg not (Bool.eq_false_iff.2 hb3)) ?_ ?_
 apply qV 3
 refine qy (eB (k:=.i64) (i:=((i:Nat):Int)) (o:=8) (off:=0) (len:=l.length) (sz:=13) (fr:=0) (es:=(a.map Tb.v)) kq bW cz kq rfl (by simp [hal]) oq oq) ?_ ?_ ?_
 refine qY (nK (o:=8) (k:=((a.map Tb.v).length)) (x:=.agg (Tb.cs (a.getD (0+j) Tb.zero))) (enc:=Tb.v) (l:=a) (X:=(a.getD (0+j) Tb.zero)) (d:=Tb.zero) (idx:=(0+i)) (sz:=13) kq (Tb.v_v (a.getD (0+j) Tb.zero)).symm kq zq oq cz rb od) ?_ ?_ ?_
 apply qN [(0,.own 8 0 l.length),(1,.fn (.func 30) [] [.ptr 4 0,.ptr 6 0]),(5,nI i),(6,nI j)] [.box [.imm (sums.map Sm.v),.map 1,.map 2,.own 3 0 s.2.length],.map (ac aa.str Tb.v M),.map (ac aa.str aa.bool s.1),.arr 5 (s.2.map Pb.v) 0,.box [.ptr 0 0],.box [.full [],.full []],.box [.map 7],.map (ac aa.str aa.bool W),.arr 13 ((a.set (0+i) (a.getD (0+j) Tb.zero)).map Tb.v) 0,.box (Tb.cs (a.getD (0+j) Tb.zero))]
 apply qo
 apply qr 1
 refine qy (aI (a:=((i:Nat):Int)) (b:=1) kq oq oq) ?_ ?_ ?_
 apply qr 1
 apply qe
 apply ah
 apply ab
 apply qz [(0,.own 8 0 l.length),(1,.fn (.func 30) [] [.ptr 4 0,.ptr 6 0]),(5,nI (i+1)),(6,nI j)]
 apply qo
 apply qr 1
 refine qy (aI (a:=((j:Nat):Int)) (b:=1) kq oq oq) ?_ ?_ ?_
 apply qr 1
 apply qe
 refine ab ⟨((a.set (0+i) (a.getD (0+j) Tb.zero)),(i+1),(j+1)),?_,?_,⟨⟨kq,kq,kq,kq,trivial⟩,by simp [aG,aa.bel],by simp,kq,by simp [ai.belO,hpT,hpG,hpF,av,aa.bel,Ty.v,Ex.v,Ct.v,Co.v,Rf.v,Sm.v,Tb.v_cs,Sc.v,Md.v,Pb.v,Ls.v,-List.map_take,-List.map_drop,-List.map_append,-List.map_set]⟩⟩
 · try dsimp only
   omega
 rotate_left
 iterate 34 kernel_rfl
 apply qf (decide_eq_false hb2)
 refine a6 0 kq kq ?_
 apply af
 apply af
 apply aE
 apply ab
 apply qz [(0,.own 8 0 l.length),(5,nI i)]
 apply qV 2
 refine qy (yd (o:=8) (off:=0) (len:=l.length) (sz:=13) (fr:=0) (es:=(a.map Tb.v)) (k:=.i64) (i:=i) kq bW cz kq (by simp;omega) rfl oq) ?_ ?_ ?_
 refine yt (o:=8) (off:=(0+i)) (len:=(l.length - i)) (es:=(a.map Tb.v)) (sz:=13) (fr:=0) (H':=[.box [.imm (sums.map Sm.v),.map 1,.map 2,.own 3 0 s.2.length],.map (ac aa.str Tb.v M),.map (ac aa.str aa.bool s.1),.arr 5 (s.2.map Pb.v) 0,.box [.ptr 0 0],.box [.full [],.full []],.box [.map 7],.map (ac aa.str aa.bool W),.arr 13 ((a.map Tb.v).take (0+i)++List.replicate (l.length - i) (b3 13)) 0]) kq kq kq bW cz kq (by simp;omega) (Nat.zero_le _) dq kq ?_
 apply qN [(0,.own 8 0 l.length),(5,nI i)] [.box [.imm (sums.map Sm.v),.map 1,.map 2,.own 3 0 s.2.length],.map (ac aa.str Tb.v M),.map (ac aa.str aa.bool s.1),.arr 5 (s.2.map Pb.v) 0,.box [.ptr 0 0],.box [.full [],.full []],.box [.map 7],.map (ac aa.str aa.bool W),.arr 13 ((a.map Tb.v).take (0+i)++List.replicate (l.length - i) (b3 13)) 0]
 apply qV 2
 refine Af (o:=8) (len:=l.length) (es:=((a.map Tb.v).take (0+i)++List.replicate (l.length - i) (b3 13))) (sz:=13) (fr:=0) (k:=.i64) (i:=i) (xs:=((l.filter (fun t=>!bF s.1 W t)).map Tb.v)) (H':=[.box [.imm (sums.map Sm.v),.map 1,.map 2,.own 3 0 s.2.length],.map (ac aa.str Tb.v M),.map (ac aa.str aa.bool s.1),.arr 5 (s.2.map Pb.v) 0,.box [.ptr 0 0],.box [.full [],.full []],.box [.map 7],.map (ac aa.str aa.bool W),.arr 13 ((a.map Tb.v).take (0+i)++List.replicate (l.length - i) (b3 13)) (bif Nat.beq i 0 then 0 else ((a.map Tb.v).take (0+i)++List.replicate (l.length - i) (b3 13)).length)]) kq kq kq bW cz kq (by simp;omega) rfl oq (by exact vY oq (hD.fin oq)) kq ?_
 refine qR 1 [(4,.imm ((l.filter (fun t=>!bF s.1 W t)).map Tb.v))] [.box [.imm (sums.map Sm.v),.map 1,.map 2,.own 3 0 s.2.length],.map (ac aa.str Tb.v M),.map (ac aa.str aa.bool s.1),.arr 5 (s.2.map Pb.v) 0,.box [.ptr 0 0],.box [.full [],.full []],.box [.map 7],.map (ac aa.str aa.bool W),.arr 13 ((a.map Tb.v).take (0+i)++List.replicate (l.length - i) (b3 13)) (bif Nat.beq i 0 then 0 else ((a.map Tb.v).take (0+i)++List.replicate (l.length - i) (b3 13)).length)] ?_ ?_
 refine cK kq ?_
 refine yG (l:=[.imm ((l.filter (fun t=>!bF s.1 W t)).map Tb.v)]) 9 [.box [.imm (sums.map Sm.v),.map 1,.map 2,.own 3 0 s.2.length],.map (ac aa.str Tb.v M),.map (ac aa.str aa.bool s.1),.arr 5 (s.2.map Pb.v) 0,.box [.ptr 0 0],.box [.full [],.full []],.box [.map 7],.map (ac aa.str aa.bool W),.arr 13 ((a.map Tb.v).take (0+i)++List.replicate (l.length - i) (b3 13)) (bif Nat.beq i 0 then 0 else ((a.map Tb.v).take (0+i)++List.replicate (l.length - i) (b3 13)).length)] (.inr rfl) kq dq kq BC (by simp [ai.belO,hpT,hpG,hpF,av,aB,aa.bel,Ty.v,Ex.v,Ct.v,Co.v,Rf.v,Sm.v,Tb.v_cs,Sc.v,Md.v,Pb.v,Ls.v,-List.map_take,-List.map_drop,-List.map_append]) ?_
 · refine ⟨rfl,?_⟩
   rw [x9 oq hal (hD.fin oq),show Nat.beq i 0=Nat.beq (l.filter (fun t=>!bF s.1 W t)).length 0 by rw [← hD.cnt oq]]
   rfl
 iterate 30 kernel_rfl
 all_goals
  try dsimp only
  first|exact hD.go oq aq|exact hD.keep oq aq
end Go.Proofs.YtcpklndelobigaaGreatDoor
