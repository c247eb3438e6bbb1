/- IndexFunc and DeleteFunc over iy, with the closure of From. Conditions: sizes that can be had. -/
import Derived.Test.YtcpklndelobigaaGreatDoorM5
set_option linter.all false
namespace Go.Proofs.YtcpklndelobigaaGreatDoor
open Go.Proofs.YtcpklndelobigaaGreatDoor.Abs
set_option maxRecDepth 20000
set_option maxHeartbeats 4000000
theorem D3 {P:Program} {h:ae} {ev:Operand->aa} {op:Op} {t:Nat} {x:aa} {lo hi:Option aa} (hv:y7 ev op=some (t,x,lo,hi)):aI ev op=none/\anx P h ev op=(lJ P h t lo hi x).map fun r=>[r]:=by
 unfold y7 at hv;split at hv <;> simp at hv;obtain ⟨rfl,rfl,rfl,rfl⟩:=hv;exact ⟨rfl,rfl⟩
section
variable {cx:Cx} {bl:List BOp} {K:Tm->ae->Prop} {S:RSt}
theorem IT {t e o off len a b a' b' sz fr:Nat} {es:List aa} {z z':aa} {k':TyK} {H':ae} (hc:bc bl=true) (hg:bi S.1 (hdB bl).g=some true) (hv:MG (aev cx.G S.1) (hdB bl).op=some (t,.own o off len)) (ht:aN cx.P t=some ⟨.slice e,a,b,z⟩) (he:aN cx.P e=some ⟨k',a',b',z'⟩) (ho:S.2[o]?=some (.arr sz es fr))
 (hl:off+len=es.length) (hf:fr<=off) (hz:z'.cells.length=sz/\z'.cells.all aa.cellOk=true) (hH:S.2.set o (.arr sz (es.take off++List.replicate len (ko sz)) fr)=H')
 (hk:bS cx bl.tail (b3 S.1 (hdB bl).dst (.tup []),H') K):bS cx bl S K:=by
 have hcl:oO cx.P S.2 t (.own o off len)=some H':=by
  simp only [oO,ht,he,ho];rw [if_pos ⟨hl,hf,hz.1,hz.2⟩,<- hH]
 obtain ⟨g1,g2,g3⟩:=Cu hv hcl;refine lj hc hg (L:=[(.tup [],H')]) g1 g2 g3 ?_;intro r hr;rw [List.mem_singleton] at hr;subst hr;exact hk
theorem K6 {t e o len i a b a' b' sz fr:Nat} {k:IntKind} {es xs:List aa} {z z':aa} {k':TyK} {H':ae} (hc:bc bl=true) (hg:bi S.1 (hdB bl).g=some true) (hv:y7 (aev cx.G S.1) (hdB bl).op=some (t,.own o 0 len,none,some (.int k ((i:Nat):Int)))) (ht:aN cx.P t=some ⟨.slice e,a,b,z⟩) (he:aN cx.P e=some ⟨k',a',b',z'⟩) (ho:S.2[o]?=some (.arr sz es fr))
 (hl:len=es.length) (hsz:sz=a') (hi:i<=len) (hx:es.take i=xs) (hH:S.2.set o (.arr sz es (bif Nat.beq i 0 then fr else es.length))=H')
 (hk:bS cx bl.tail (b3 S.1 (hdB bl).dst (.imm xs),H') K):bS cx bl S K:=by
 have hb:dG len none (some (.int k ((i:Nat):Int)))=some (0,i):=by
  have:=mP (len:=len) (lo:=none) (hi:=some (.int k ((i:Nat):Int))) rfl rfl (Int.le_refl 0) oq oq;simpa using this
 rcases Nat.eq_zero_or_pos i with h0|hp
 . subst h0
   have e1:H'=S.2:=by
    obtain ⟨hlt,hgo⟩:=List.getElem?_eq_some_iff.1 ho;rw [<- hH,show (bif Nat.beq 0 0 then fr else es.length)=fr from rfl,<- hgo];exact List.set_getElem_self hlt
   have e2:xs=[]:=by rw [<- hx];rfl
   subst e2;refine i9 (v:=.imm []) (h':=H') hc hg ?_ hk;rw [lH hv,e1];simp only [ix,ht,he,ho];rw [if_pos ⟨by omega,hsz⟩,hb];rfl
 . have hn:¬ Nat.beq i 0=true:=by rw [Nat.beq_eq];omega
   have ha:aop cx.P S.2 (aev cx.G S.1) (hdB bl).op=none:=by
    rw [lH hv];simp only [ix,ht,he,ho];rw [if_pos ⟨by omega,hsz⟩,hb];obtain ⟨j,rfl⟩:∃ j,i=j+1:=⟨i - 1,by omega⟩;rfl
   have hcal:=D3 (P:=cx.P) (h:=S.2) hv
   have hfr:(lJ cx.P S.2 t none (some (.int k ((i:Nat):Int))) (.own o 0 len))=some (.imm xs,H'):=by
    simp only [lJ,ht,he,ho];rw [if_pos ⟨by omega,hsz⟩,hb];simp only [List.drop_zero,hx,<- hH,Bool.eq_false_iff.2 hn,cond_false]
   rw [hfr] at hcal;refine lj hc hg (L:=[(.imm xs,H')]) ha hcal.1 hcal.2 ?_;intro r hr;rw [List.mem_singleton] at hr;subst hr;exact hk
end
section
variable {P:Program} {ev:Operand->aa} {op:Op} {h:ae}
theorem HA {t e o off len i a b a' b' sz fr:Nat} {es:List aa} {z z':aa} {k':TyK} {k:IntKind} (hv:y7 ev op=some (t,.own o off len,some (.int k ((i:Nat):Int)),none)) (ht:aN P t=some ⟨.slice e,a,b,z⟩) (he:aN P e=some ⟨k',a',b',z'⟩) (ho:h[o]?=some (.arr sz es fr)) (hl:off+len=es.length) (hsz:sz=a') (hi:i<=len) :
 aop P h ev op=some (.own o (off+i) (len - i),h):=by
 rw [lH hv]
 have hb:dG len (some (.int k ((i:Nat):Int))) none=some (i,len):=by
  have:=mP (len:=len) (lo:=some (.int k ((i:Nat):Int))) (hi:=none) rfl rfl oq oq (Int.le_refl _);simpa using this
 simp only [ix,ht,he,ho];rw [if_pos ⟨hl,hsz⟩,hb];rfl
end
theorem Tb.v_v (t:Tb):t.v=.agg t.cs:=rfl
theorem Ab (t:Tb):t.v.cells.length=13/\t.v.cells.all aa.cellOk=true:=⟨rfl,rfl⟩
theorem v6 (p q:Tb):p.v.withCells q.v.cells=some q.v:=rfl
@[simp] theorem PZ (k i:Nat) (a:List Tb):aM k ((a.map Tb.v).take i)=true:=by rw [<- List.map_take];exact mR k _
@[simp] theorem AE (k:Nat):∀ n,aM k (List.replicate n (ko 13))=true
 | 0=>rfl
 | n+1=>by rw [List.replicate_succ,aM,AE k n];rfl
def hpT (Z:List Sm) (M:Tm_) (s:BP) (W:List (List UInt8×Bool)) (l:List Tb):ae:=hpG Z M s W++[.arr 13 (l.map Tb.v) 0]
theorem F2 {α:Type} (l:List α) (d:α) (k:Nat):l.getD (0+k) d=l.getD k d:=by rw [Nat.zero_add]
theorem Ot {l:List Tb} (h:∀ t∈l,t.ok) {k:Nat} (hk:k<l.length):(l.getD (0+k) Tb.zero).ok:=by rw [Nat.zero_add];exact h _ (bF _ _ _ hk)
structure Del (p:Tb->Bool) (l a:List Tb) (i j:Nat):Prop where
 len:a.length=l.length
 lt:i<j
 le:j<=l.length
 kept:a.take i=(l.take j).filter (fun t=>!p t)
 rest:a.drop j=l.drop j
theorem Del.at {p:Tb->Bool} {l a:List Tb} {i j:Nat} (h:Del p l a i j) (hj:j<l.length):a.getD (0+j) Tb.zero=l.getD j Tb.zero:=by
 have h1:=congrArg (fun q=>q[0]?) h.rest;simp only [List.getElem?_drop,Nat.add_zero] at h1;rw [Nat.zero_add,List.getD_eq_getElem?_getD,List.getD_eq_getElem?_getD,h1]
theorem Del.go {p:Tb->Bool} {l a:List Tb} {i j:Nat} (h:Del p l a i j) (hj:j<l.length) (hp:p (a.getD (0+j) Tb.zero)=true):Del p l a i (j+1):=by
 rw [h.at hj] at hp;refine ⟨h.len,(by have:=h.lt;omega),hj,?_,?_⟩
 . rw [h.kept,cm l Tb.zero j hj,List.filter_append,List.filter_cons_of_neg (by rw [hp];decide),List.filter_nil,List.append_nil]
 . have:=congrArg (List.drop 1) h.rest;simpa [List.drop_drop] using this
theorem Del.keep {p:Tb->Bool} {l a:List Tb} {i j:Nat} (h:Del p l a i j) (hj:j<l.length) (hp:¬ p (a.getD (0+j) Tb.zero)=true):Del p l (a.set (0+i) (a.getD (0+j) Tb.zero)) (i+1) (j+1):=by
 have hlt:=h.lt;have hlen:=h.len;have hat:=h.at hj;rw [hat] at hp ⊢;rw [Nat.zero_add];refine ⟨(by rw [List.length_set];exact h.len),by omega,hj,?_,?_⟩
 . rw [cm _ Tb.zero i (by rw [List.length_set];omega),List.take_set_of_le (Nat.le_refl i),h.kept,cm l Tb.zero j hj,List.filter_append,List.filter_cons_of_pos (by simpa using hp),List.filter_nil,ls _ _ _ _ _ oq,if_pos rfl]
 . have:=congrArg (List.drop 1) h.rest;rw [List.drop_set_of_lt oq];simpa [List.drop_drop] using this
theorem Del.init {p:Tb->Bool} {l:List Tb} (h:l.any p=true):Del p l l (ce p l).toNat ((ce p l).toNat+1)/\ce p l=(((ce p l).toNat:Nat):Int)/\(ce p l).toNat<l.length:=by
 unfold ce;cases e:l.findIdx? p with
 | none =>
  rw [List.findIdx?_eq_none_iff] at e;rw [List.any_eq_true] at h;obtain ⟨x,h1,h2⟩:=h;rw [e x h1] at h2;cases h2
 | some i =>
  obtain ⟨h1,h2,h3⟩:=List.findIdx?_eq_some_iff_getElem.1 e;refine ⟨⟨rfl,Nat.lt_succ_self _,h1,?_,rfl⟩,rfl,h1⟩;show l.take i=(l.take (i+1)).filter _
  have hall:(l.take i).filter (fun t=>!p t)=l.take i:=by
   rw [List.filter_eq_self];intro x hx;obtain ⟨j,hj,rfl⟩:=List.getElem_of_mem hx;rw [List.length_take] at hj;have:=h3 j oq;rw [List.getElem_take];simpa using this
  rw [cm l Tb.zero i h1,List.filter_append,hall,List.filter_cons_of_neg (by rw [bJ l _ _ h1,h2];simp),List.filter_nil,List.append_nil]
theorem EA {p:Tb->Bool} {l:List Tb} (h:¬ l.any p=true):ce p l=-1:=by
 unfold ce
 rw [List.findIdx?_eq_none_iff.2 (fun x hx=>by
  cases e:p x with
  | false=>rfl
  | true=>exact absurd (List.any_eq_true.2 ⟨x,hx,e⟩) h)]
theorem Del.fin {p:Tb->Bool} {l a:List Tb} {i j:Nat} (h:Del p l a i j) (hj:¬ j<l.length):a.take i=l.filter (fun t=>!p t):=by
 have:=h.kept;rw [List.take_of_length_le (by omega:l.length<=j)] at this;exact this
theorem Del.cnt {p:Tb->Bool} {l a:List Tb} {i j:Nat} (h:Del p l a i j) (hj:¬ j<l.length):i=(l.filter (fun t=>!p t)).length:=by
 rw [<- h.fin hj,List.length_take,h.len];have:=h.lt;have:=h.le;omega
theorem D7 {a F:List Tb} {i:Nat} {R:List aa} (hi:i<=a.length) (h:a.take i=F):((a.map Tb.v).take (0+i)++R).take i=F.map Tb.v:=by
 rw [Nat.zero_add,List.take_append_of_le_length (by rw [List.length_take,List.length_map];omega),List.take_take,Nat.min_self,<- List.map_take,h]
theorem IA {l a F:List Tb} {i:Nat} (hi:i<=a.length) (hl:a.length=l.length) (h:a.take i=F):((a.map Tb.v).take (0+i)++List.replicate (l.length - i) (ko 13))=F.map Tb.v++List.replicate (l.length - F.length) (ko 13):=by
 rw [Nat.zero_add,<- List.map_take,h,<- h,List.length_take,Nat.min_eq_left hi]
def hpD (Z:List Sm) (M:Tm_) (s:BP) (W:List (List UInt8×Bool)) (l F:List Tb):ae:=hpG Z M s W++[.arr 13 (F.map Tb.v++List.replicate (l.length - F.length) (ko 13)) (bif Nat.beq F.length 0 then 0 else (F.map Tb.v++List.replicate (l.length - F.length) (ko 13)).length)]
noncomputable def c82:Code:=aF Tryz.f82
abbrev vf (Z:List Sm)(s:BP)(M:Tm_)(W:List (List UInt8×Bool))(l:List Tb):List ax:=[.box [.imm (Z.map Sm.v),.map 1,.map 2,.own 3 0 s.2.length],.map (gm M),.map (ak aa.str aa.bool s.1),.arr 5 (s.2.map Pb.v) 0,.box [.ptr 0 0],.box [.full [],.full []],.box [.map 7],.map (ak aa.str aa.bool W),.arr 13 (l.map Tb.v) 0]
abbrev yX :List aa:=[.ptr 4 0,.ptr 6 0]
abbrev zj (l:List Tb):Nat×aa:=(0,.own 8 0 l.length)
theorem iD {p:Prop} (h:p:=by simp [ax.belO,hpT,hpG,hpF,aM,aa.bel,Ty.v,Ex.v,Ct.v,Co.v,Rf.v,Sm.v,Tb.v_cs,Sc.v,Md.v,Pb.v,Ls.v,-List.map_take,-List.map_drop,-List.map_append,-List.map_set]):p:=h
theorem NR {p:Prop} (h:p:=by show aa.int _ _=aa.int _ _;first|rw [<- eW (p:=cO s.1 W) Tb.zero (l:=l) (k:=k) oq ha (by rw [<- F2];assumption)]|rw [<- e7 (p:=cO s.1 W) Tb.zero (l:=l) (fun i hi=>ha i oq)]):p:=h
theorem Bt (Z:List Sm) (M:Tm_) (s:BP) (W:List (List UInt8×Bool)) (l:List Tb) (hl:l.length<1000) (hok:∀ t∈l,t.ok):aE cx 82 [.own 8 0 l.length,.fn (.func 30) [] [.ptr 4 0,.ptr 6 0]] (hpT Z M s W l) (fun v h=>v=(.int .i64 (ce (cO s.1 W) l))/\h=hpT Z M s W l):=by
 refine am (cx:=cx) 19 9 [(ResultVar.tmp 4)] Tryz.func82 rfl rfl rfl rfl rfl zq ?_;show wpA cx 19 9 (at_ c82 []) _ _ _;refine zZ (fun _=>[(zj l),(1,.fn (.func 30) [] yX)]) (fun _=>(vf Z s M W l)) ?_ ?_;apply zW 1 id id;apply ao;apply zV 1;refine qy (cU (o:=8) (off:=0) (len:=l.length) (sz:=13) (es:=(l.map Tb.v)) (fr:=0) kq b7 kq zq) ?_ ?_ ?_;apply zR 1 (mU [(7,nI l.length),(8,.int .i64 0)]) id;apply qB 0;refine aU (σ:=Nat) (fun k=>[(zj l),(1,.fn (.func 30) [] yX),(7,.int .i64 ((l.length:Nat):Int)),(8,nI k)]) (fun k=>(vf Z s M W l)) (fun k=>k<=l.length/\∀ i,i<k->¬ cO s.1 W (l.getD i Tb.zero)=true) (fun k=>l.length - k) 0 kq (by exact ⟨Nat.zero_le _,fun i h=>absurd h (Nat.not_lt_zero i)⟩) (fg kq kq az iD) ?_;rintro k ⟨hk,ha⟩;apply zW 1 (mU [(9,.bool (decide (((k:Nat):Int)<((l.length:Nat):Int))))]) id;apply ao;by_cases hb1:((k:Nat):Int)<((l.length:Nat):Int);apply qt (decide_eq_true hb1);apply qK;apply zZ (mT [] [9]) id;apply ao;apply qB 1;apply zW 2 (mU [(5,nI k)]) id;apply zV 3;refine qy (b9 (k:=.i64) (i:=((k:Nat):Int)) (o:=8) (off:=0) (len:=l.length) (sz:=13) (fr:=0) (es:=(l.map Tb.v)) kq b7 cN kq rfl zq ar ar) ?_ ?_ ?_;refine qy (eI (t:=52) (o:=8) (idx:=(0+k)) (off:=0) (k:=((l.map Tb.v).length)) (sz:=13) (fr:=0) (es:=(l.map Tb.v)) (x:=Tb.v (l.getD (0+k) Tb.zero)) (v:=.agg (Tb.cs (l.getD (0+k) Tb.zero))) kq kq zq (eJ _ _ _ _ ar) (by rw [cQ];exact kq)) ?_ ?_ ?_;refine qA (FQ Z M s W (l.getD (0+k) Tb.zero) (Ot hok oq)) iD iD rfl iD iD kq ?_;apply zN (mU [(16,.bool (cO s.1 W (l.getD (0+k) Tb.zero)))]) id;by_cases hb2:(cO s.1 W (l.getD (0+k) Tb.zero))=true;apply qt (hb2);refine zW 2 (fun _=>[(4,nI k)]) (fun _=>(vf Z s M W l)) ?_ ?_;refine bq kq ?_;apply iR;apply aR;apply aR;apply iR;apply aR;refine cy (l:=[.int .i64 ((k:Nat):Int)]) (.inr rfl) kq NR c5 c5 ?_ ?_;refine Eq.trans (b:=(vf Z s M W l)) kq ?_
 . rfl
 rotate_left
 iterate 2 kernel_rfl
 apply qf (Bool.eq_false_iff.2 hb2);apply qk;apply ag;apply ab;apply zZ (mT [] [5,16]) id;apply qo;refine qy (aA (a:=((k:Nat):Int)) (b:=1) kq ar ar) ?_ ?_ ?_;apply qr 1;apply qe;refine ab ⟨k+1,?_,?_,(fg kq kq az iD)⟩
 . omega
 . refine ⟨by omega,fun i hi=>?_⟩;rcases Nat.lt_succ_iff_lt_or_eq.1 hi with h|h
   . exact ha i h
   . subst h;rw [<- F2];assumption
 iterate 21 kernel_rfl
 apply qf (decide_eq_false hb1);refine aK 0 kq kq ?_;apply ac;apply ac;apply au;apply ab;refine zZ (fun _=>[]) id ?_ ?_;refine zW 1 (fun _=>[(4,.int .i64 (-1))]) (fun _=>(vf Z s M W l)) ?_ ?_;refine bq kq ?_;refine cy (l:=[.int .i64 (-1)]) (.inr rfl) kq NR c5 c5 ?_ ?_;refine Eq.trans (b:=(vf Z s M W l)) kq ?_
 . rfl
 rotate_left
 iterate 14 kernel_rfl
 all_goals
  simp [ax.belO,hpT,hpG,hpF,aM,aa.bel,Ty.v,Ex.v,Ct.v,Co.v,Rf.v,Sm.v,Tb.v_cs,Sc.v,Md.v,Pb.v,Ls.v,-List.map_take,-List.map_drop,-List.map_append,-List.map_set]
noncomputable def c28:Code:=aF Tryz.f28
theorem N3 {p:Prop} (h:p:=by simp [bg,-List.map_append,-List.map_take,-List.map_drop,-List.append_assoc]):p:=h
theorem MD (Z:List Sm) (M:Tm_) (s:BP) (W:List (List UInt8×Bool)) (l:List Tb) (hl:l.length<1000) (hok:∀ t∈l,t.ok) (hn:¬ l.any (cO s.1 W)=true):aE cx 28 [.own 8 0 l.length,.fn (.func 30) [] [.ptr 4 0,.ptr 6 0]] (hpT Z M s W l) (fun v h=>v=.own 8 0 l.length/\h=hpT Z M s W l):=by
 refine fo (cx:=cx) 42 9 [(ResultVar.tmp 4)] Tryz.func28 rfl rfl rfl rfl rfl zq ?_;show wpA cx 42 9 (at_ c28 []) _ _ _;refine zZ (fun _=>[(zj l),(1,.fn (.func 30) [] yX)]) (fun _=>(vf Z s M W l)) ?_ ?_;apply zW 1 id id;apply zV 2;refine qA (Bt Z M s W l hl hok) iD iD rfl iD iD kq ?_;apply zR 1 (mU [(5,.int .i64 (ce (cO s.1 W) l))]) id;apply ao;apply zW 2 (mU [(12,.bool ((ce (cO s.1 W) l)==(-1)))]) id;by_cases hb1:(ce (cO s.1 W) l)=(-1);apply qt (beq_iff_eq.2 hb1);refine zW 2 (fun _=>[(4,.own 8 0 l.length)]) (fun _=>(vf Z s M W l)) ?_ ?_;refine bq kq ?_;apply aR;refine gv (l:=[.own 8 0 l.length]) 9 [.box [.imm (Z.map Sm.v),.map 1,.map 2,.own 3 0 s.2.length],.map (ak aa.str Tb.v M),.map (ak aa.str aa.bool s.1),.arr 5 (s.2.map Pb.v) 0,.box [.ptr 0 0],.box [.full [],.full []],.box [.map 7],.map (ak aa.str aa.bool W),.arr 13 (l.map Tb.v) 0] (.inr rfl) kq dq kq N3 iD ?_
 . exact ⟨rfl,rfl⟩
 iterate 2 kernel_rfl
 . exfalso;exact hb1 (EA hn)
 iterate 6 kernel_rfl
abbrev EK (a:List Tb)(i:Nat)(l:List Tb):=((a.map Tb.v).take (0+i)++List.replicate (l.length - i) (ko 13))
abbrev NP (Z:List Sm)(s:BP)(M:Tm_)(W:List (List UInt8×Bool))(a:List Tb)(i:Nat)(l:List Tb):List ax:=[.box [.imm (Z.map Sm.v),.map 1,.map 2,.own 3 0 s.2.length],.map (gm M),.map (ak aa.str aa.bool s.1),.arr 5 (s.2.map Pb.v) 0,.box [.ptr 0 0],.box [.full [],.full []],.box [.map 7],.map (ak aa.str aa.bool W),.arr 13 (EK a i l) (bif Nat.beq i 0 then 0 else (EK a i l).length)]
abbrev O0 (Z:List Sm)(s:BP)(M:Tm_)(W:List (List UInt8×Bool))(a:List Tb):List ax:=[.box [.imm (Z.map Sm.v),.map 1,.map 2,.own 3 0 s.2.length],.map (gm M),.map (ak aa.str aa.bool s.1),.arr 5 (s.2.map Pb.v) 0,.box [.ptr 0 0],.box [.full [],.full []],.box [.map 7],.map (ak aa.str aa.bool W),.arr 13 (a.map Tb.v) 0]
abbrev iI (a:List Tb)(j:Nat):=(a.getD (0+j) Tb.zero)
theorem K9 {p:Prop} (h:p:=by first|(simp;done)|(simp [hal];done)):p:=h
theorem Gf (Z:List Sm) (M:Tm_) (s:BP) (W:List (List UInt8×Bool)) (l:List Tb) (hl:l.length<1000) (hok:∀ t∈l,t.ok) (hn:l.any (cO s.1 W)=true):aE cx 28 [.own 8 0 l.length,.fn (.func 30) [] [.ptr 4 0,.ptr 6 0]] (hpT Z M s W l) (fun v h=>v=.imm ((l.filter (fun t=>!cO s.1 W t)).map Tb.v)/\h=hpD Z M s W l (l.filter (fun t=>!cO s.1 W t))):=by
 have hix:=Del.init hn;refine fo (cx:=cx) 42 9 [(ResultVar.tmp 4)] Tryz.func28 rfl rfl rfl rfl rfl zq ?_;show wpA cx 42 9 (at_ c28 []) _ _ _;refine zZ (fun _=>[(zj l),(1,.fn (.func 30) [] yX)]) (fun _=>(vf Z s M W l)) ?_ ?_;apply zW 1 id id;apply zV 2;refine qA (Bt Z M s W l hl hok) iD iD rfl iD iD kq ?_;apply zR 1 (mU [(5,.int .i64 (ce (cO s.1 W) l))]) id;apply ao;apply zW 2 (mU [(12,.bool ((ce (cO s.1 W) l)==(-1)))]) id;by_cases hb1:(ce (cO s.1 W) l)=(-1)
 . exfalso;have:=hix.2.1;omega
 apply qf (beq_eq_false_iff_ne.2 hb1);apply qK;apply zZ (mT [] [12]) id;apply ao;apply zV 1;refine qy (aA (a:=(ce (cO s.1 W) l)) (b:=1) kq ar ar) ?_ ?_ ?_;apply zR 1 (mU [(6,.int .i64 ((ce (cO s.1 W) l)+1))]) id;apply qB 0;refine aU (σ:=(List Tb×Nat×Nat)) (fun ⟨a,i,j⟩=>[(zj l),(1,.fn (.func 30) [] yX),(5,nI i),(6,nI j)]) (fun ⟨a,i,j⟩=>(O0 Z s M W a)) (fun ⟨a,i,j⟩=>Del (cO s.1 W) l a i j) (fun ⟨a,i,j⟩=>l.length - j) (l,(ce (cO s.1 W) l).toNat,(ce (cO s.1 W) l).toNat+1) kq (by exact hix.1) ⟨⟨kq,kq,(Eq.trans (b:=.int .i64 (ce (cO s.1 W) l)) kq (by exact congrArg (aa.int .i64) hix.2.1)),(Eq.trans (b:=.int .i64 ((ce (cO s.1 W) l)+1)) kq (by exact congrArg (aa.int .i64) (by have:=hix.2.1;omega))),trivial⟩,az,by simp,kq,iD⟩ ?_;rintro ⟨a,i,j⟩ hD;have hal:=hD.len;have hij:=hD.lt;have hjl:=hD.le;refine zZ (fun _=>[(zj l),(1,.fn (.func 30) [] yX),(5,nI i),(6,nI j)]) (fun _=>(O0 Z s M W a)) ?_ ?_;apply ao;apply zV 2;refine qy (cU (o:=8) (off:=0) (len:=l.length) (sz:=13) (es:=(a.map Tb.v)) (fr:=0) kq b7 kq K9) ?_ ?_ ?_;apply zR 1 (mU [(19,.bool (decide (((j:Nat):Int)<((l.length:Nat):Int))))]) id;by_cases hb2:((j:Nat):Int)<((l.length:Nat):Int);apply qt (decide_eq_true hb2);apply qK;apply zZ (mT [] [19]) id;apply ao;apply qB 1;apply zV 2;refine qy (b9 (k:=.i64) (i:=((j:Nat):Int)) (o:=8) (off:=0) (len:=l.length) (sz:=13) (fr:=0) (es:=(a.map Tb.v)) kq b7 cN kq rfl K9 ar ar) ?_ ?_ ?_;refine qy (eI (t:=52) (o:=8) (idx:=(0+j)) (off:=0) (k:=((a.map Tb.v).length)) (sz:=13) (fr:=0) (es:=(a.map Tb.v)) (x:=Tb.v (iI a j)) (v:=.agg (Tb.cs (iI a j))) kq kq zq (eJ _ _ _ _ ar) (by rw [cQ];exact kq)) ?_ ?_ ?_;apply zR 2 (mU [(7,.ptr 9 0)]) (mH [] [.box (Tb.cs (iI a j))]);apply zV 2;refine qA (hs:=[.box [.imm (Z.map Sm.v),.map 1,.map 2,.own 3 0 s.2.length],.map (ak aa.str Tb.v M),.map (ak aa.str aa.bool s.1),.arr 5 (s.2.map Pb.v) 0,.box [.ptr 0 0],.box [.full [],.full []],.box [.map 7],.map (ak aa.str aa.bool W)]) (hs':=[.box [.imm (Z.map Sm.v),.map 1,.map 2,.own 3 0 s.2.length],.map (ak aa.str Tb.v M),.map (ak aa.str aa.bool s.1),.arr 5 (s.2.map Pb.v) 0,.box [.ptr 0 0],.box [.full [],.full []],.box [.map 7],.map (ak aa.str aa.bool W)]) (FQ Z M s W (a.getD (0+j) Tb.zero) (by rw [hD.at oq];exact hok _ (bF _ _ _ oq))) iD iD rfl iD iD kq ?_;apply zR 1 (mU [(29,.bool (!(cO s.1 W (iI a j))))]) id;by_cases hb3:(cO s.1 W (a.getD (0+j) Tb.zero))=true;refine qf (x:=(!(cO s.1 W (iI a j)))) (congrArg not (hb3)) ?_ ?_;apply qk;apply ag;apply ab;apply zZ (mT [] [7,29]) id;apply qo;apply qr 1;refine qy (aA (a:=((j:Nat):Int)) (b:=1) kq ar ar) ?_ ?_ ?_;apply qr 1;apply qe;refine ab ⟨(a,i,(j+1)),?_,?_,(fg kq kq az iD)⟩
 . try dsimp only
   omega
 rotate_left
 iterate 9 kernel_rfl
 refine qt (x:=(!(cO s.1 W (iI a j)))) (congrArg not (Bool.eq_false_iff.2 hb3)) ?_ ?_;apply zV 3;refine qy (b9 (k:=.i64) (i:=((i:Nat):Int)) (o:=8) (off:=0) (len:=l.length) (sz:=13) (fr:=0) (es:=(a.map Tb.v)) kq b7 cN kq rfl K9 ar ar) ?_ ?_ ?_;refine qY (iV (o:=8) (k:=((a.map Tb.v).length)) (x:=.agg (Tb.cs (iI a j))) (enc:=Tb.v) (l:=a) (X:=(iI a j)) (d:=Tb.zero) (idx:=(0+i)) (sz:=13) kq (Tb.v_v (iI a j)).symm kq zq ar cN Ab v6) ?_ ?_ ?_;apply zN (mT [] [7,29]) (mO [(8,.arr 13 ((a.set (0+i) (iI a j)).map Tb.v) 0)]);apply qo;apply qr 1;refine qy (aA (a:=((i:Nat):Int)) (b:=1) kq ar ar) ?_ ?_ ?_;apply qr 1;apply qe;apply ag;apply ab;refine zZ (fun _=>[(zj l),(1,.fn (.func 30) [] yX),(5,nI (i+1)),(6,nI j)]) id ?_ ?_;apply qo;apply qr 1;refine qy (aA (a:=((j:Nat):Int)) (b:=1) kq ar ar) ?_ ?_ ?_;apply qr 1;apply qe;refine ab ⟨((a.set (0+i) (a.getD (0+j) Tb.zero)),(i+1),(j+1)),?_,?_,(fg kq kq az iD)⟩
 . try dsimp only
   omega
 rotate_left
 iterate 34 kernel_rfl
 apply qf (decide_eq_false hb2);refine aK 0 kq kq ?_;apply ac;apply ac;apply au;apply ab;apply zZ (mT [] [1,6,19]) id;apply zV 2;refine qy (HA (o:=8) (off:=0) (len:=l.length) (sz:=13) (fr:=0) (es:=(a.map Tb.v)) (k:=.i64) (i:=i) kq b7 cN kq ar rfl ar) ?_ ?_ ?_;refine IT (o:=8) (off:=(0+i)) (len:=(l.length - i)) (es:=(a.map Tb.v)) (sz:=13) (fr:=0) (H':=[.box [.imm (Z.map Sm.v),.map 1,.map 2,.own 3 0 s.2.length],.map (gm M),.map (ak aa.str aa.bool s.1),.arr 5 (s.2.map Pb.v) 0,.box [.ptr 0 0],.box [.full [],.full []],.box [.map 7],.map (ak aa.str aa.bool W),.arr 13 (EK a i l) 0]) kq kq kq b7 cN kq ar (Nat.zero_le _) dq kq ?_;apply zN id (mO [(8,.arr 13 (EK a i l) 0)]);apply zV 2;refine K6 (o:=8) (len:=l.length) (es:=(EK a i l)) (sz:=13) (fr:=0) (k:=.i64) (i:=i) (xs:=((l.filter (fun t=>!cO s.1 W t)).map Tb.v)) (H':=(NP Z s M W a i l)) kq kq kq b7 cN kq ar rfl ar (by exact D7 oq (hD.fin oq)) kq ?_;refine zR 1 (fun _=>[(4,.imm ((l.filter (fun t=>!cO s.1 W t)).map Tb.v))]) (fun _=>(NP Z s M W a i l)) ?_ ?_;refine bq kq ?_;refine gv (l:=[.imm ((l.filter (fun t=>!cO s.1 W t)).map Tb.v)]) 9 [.box [.imm (Z.map Sm.v),.map 1,.map 2,.own 3 0 s.2.length],.map (ak aa.str Tb.v M),.map (ak aa.str aa.bool s.1),.arr 5 (s.2.map Pb.v) 0,.box [.ptr 0 0],.box [.full [],.full []],.box [.map 7],.map (ak aa.str aa.bool W),.arr 13 ((a.map Tb.v).take (0+i)++List.replicate (l.length - i) (ko 13)) (bif Nat.beq i 0 then 0 else ((a.map Tb.v).take (0+i)++List.replicate (l.length - i) (ko 13)).length)] (.inr rfl) kq dq kq N3 (by simp [ax.belO,hpT,hpG,hpF,aM,dW,aa.bel,Ty.v,Ex.v,Ct.v,Co.v,Rf.v,Sm.v,Tb.v_cs,Sc.v,Md.v,Pb.v,Ls.v,-List.map_take,-List.map_drop,-List.map_append]) ?_
 . refine ⟨rfl,?_⟩;rw [IA oq hal (hD.fin oq),show Nat.beq i 0=Nat.beq (l.filter (fun t=>!cO s.1 W t)).length 0 by rw [<- hD.cnt oq]];rfl
 iterate 30 kernel_rfl
 all_goals
  try dsimp only
  first|exact hD.go oq aq|exact hD.keep oq aq
end Go.Proofs.YtcpklndelobigaaGreatDoor
