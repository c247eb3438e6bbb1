/- A part of the proof: plain lemmas and walks. No condition. -/
import Derived.Test.YtcpklndelobigaaGreatDoorE4
import Derived.Test.YtcpklndelobigaaGreatDoorQH
import Derived.Test.YtcpklndelobigaaGreatDoorQC
set_option linter.all false
namespace Go.Proofs.YtcpklndelobigaaGreatDoor
open Go.Proofs.YtcpklndelobigaaGreatDoor.Abs
set_option maxRecDepth 20000
set_option maxHeartbeats 4000000
theorem Sm.v_v (t:Sm):t.v=.agg [.str t.name,.imm (t.ctors.map Ct.v)]:=rfl
theorem IQ (t:Sm):t.v.cells.length=2/\t.v.cells.all aa.cellOk=true:=⟨rfl,rfl⟩
theorem DD (p q:Sm):p.v.withCells q.v.cells=some q.v:=rfl
theorem Ny (a b:Sm) :ae cx 73 [Sm.v a,Sm.v b] (.int .i64 (i6 a.name b.name)):=by
 refine fI 10 0 [(ResultVar.tmp 4)] Tryz.func73 kq ?_;refine zZ (fun _=>[(0,Sm.v a),(1,Sm.v b)]) (fun _=>[]) ?_ ?_;refine zW 3 (fun _=>[(2,.ptr 0 0),(3,.ptr 1 0)]) (fun _=>[.box [.str a.name,.imm (a.ctors.map Ct.v)],.box [.str b.name,.imm (b.ctors.map Ct.v)]]) ?_ ?_;apply zV 4;refine qc [.str a.name,.str b.name] (kG a.name b.name) ?_ ?_;refine qX 1 ?_ ?_;refine dm (n:=(i6 a.name b.name)) (.inr rfl) kq ?_
 . rfl
 iterate 5 kernel_rfl
theorem Lt (a:List Sm) (j:Nat):((a.set (0+j) (a.getD (0+(((j:Nat):Int) - 1).toNat) Sm.zero)).set (0+(((j:Nat):Int) - 1).toNat) (a.getD (0+j) Sm.zero))=uk a j:=by
 rw [jm1,Nat.zero_add,Nat.zero_add];rfl
theorem NA {a b:List Sm} {i j:Nat} (h:i7 j a=i7 i b) (hj:¬ ((j:Nat):Int) > 0):a=i7 i b:=by
 have:j=0:=by omega
 subst this;exact h
theorem L7 {a b:List Sm} {i j:Nat} (h:i7 j a=i7 i b) (hs:¬ (i6 (a.getD (0+j) Sm.zero).name (a.getD (0+(((j:Nat):Int) - 1).toNat) Sm.zero).name)<0):a=i7 i b:=by
 cases j with
 | zero=>exact h
 | succ j =>
  rw [n0,jm1,Nat.zero_add,Nat.zero_add,Nat.add_sub_cancel] at hs;rw [i7,if_neg hs] at h;exact h
theorem KX {a b:List Sm} {i j:Nat} (h:i7 j a=i7 i b) (hj:((j:Nat):Int) > 0) (hs:(i6 (a.getD (0+j) Sm.zero).name (a.getD (0+(((j:Nat):Int) - 1).toNat) Sm.zero).name)<0):i7 (j - 1) (uk a j)=i7 i b:=by
 cases j with
 | zero=>omega
 | succ j =>
  rw [n0,jm1,Nat.zero_add,Nat.zero_add,Nat.add_sub_cancel] at hs;rw [i7,if_pos hs] at h;exact h
theorem Jz {l:List Sm} {i:Nat} (h1:1<=i) (h2:i<=l.length\/i=1) (h3:¬ ((i:Nat):Int)<((l.length:Nat):Int)):jK i l=jK l.length l:=by
 rcases h2 with h|h
 . have:i=l.length:=by omega
   rw [this]
 . subst h;cases e:l.length with
   | zero=>rfl
   | succ n => have:n=0:=by omega
               rw [this]
abbrev rz (a:List Sm)(j:Nat):=(a.getD (0+((J2 j)).toNat) Sm.zero)
abbrev MR (a:List Sm)(j:Nat):List aa:=[.str (a.getD (0+j) Sm.zero).name,.imm ((a.getD (0+j) Sm.zero).ctors.map Ct.v)]
abbrev Lg (a:List Sm)(j:Nat):List aa:=[.str (rz a j).name,.imm ((rz a j).ctors.map Ct.v)]
abbrev AL (a:List Sm)(j:Nat):=(a.getD (0+j) Sm.zero)
theorem TA {p:Prop} (h:p:=by (first|rw [NA hJ.1 aq]|rw [L7 hJ.1 aq]);show _=_;kernel_rfl):p:=h
theorem N3 {p:Prop} (h:p:=by rw [cr];exact kq):p:=h
abbrev FH (a:List Sm)(j:Nat):=a.getD (0+((((j:Nat):Int) - 1)).toNat) Sm.zero
abbrev F8 (l:List Sm):List am:=[.arr 2 ((jK l.length l).map Sm.v) 0]
abbrev yw (l:List Sm):List am:=[.arr 2 (l.map Sm.v) 0]
abbrev P5 (a:List Sm)(j:Nat):=i6 (a.getD (0+j) Sm.zero).name (FH a j).name
theorem IY (l:List Sm) (hl:l.length<1000):av cx 199 [.own 0 0 l.length,.int .i64 0,.int .i64 ((l.length:Nat):Int),.fn (.func 73) [] []] (yw l) (fun v h=>v=(.tup [])/\h=(F8 l)):=by
 refine fI 53 1 [] Tryz.func199 kq ?_;refine zZ (fun _=>[(0,.own 0 0 l.length),(1,.int .i64 0),(2,nI l.length),(3,.fn (.func 73) [] [])]) (fun _=>(yw l)) ?_ ?_;apply zW 3 (mU [(8,.int .i64 1)]) id;apply qB 0;refine aT (σ:=Nat) (fun i=>[(0,.own 0 0 l.length),(1,.int .i64 0),(2,.int .i64 ((l.length:Nat):Int)),(3,.fn (.func 73) [] []),(8,.int .i64 ((i:Nat):Int))]) (fun i=>[.arr 2 ((jK i l).map Sm.v) 0]) (fun i=>1<=i/\(i<=l.length\/i=1)) (fun i=>l.length - i) 1 kq oq (fg kq (Eq.trans (b:=(yw l)) kq (by show _=_;kernel_rfl)) aA gP) ?_;rintro i ⟨hi1,hi2⟩;have hil:=kp l i;apply ai;apply zW 3 (mU [(14,.bool (decide (((i:Nat):Int)<((l.length:Nat):Int))))]) id;by_cases hb1:((i:Nat):Int)<((l.length:Nat):Int);apply qt (decide_eq_true hb1);apply qK;apply zZ (mT [] [14]) id;apply ai;apply qB 1;apply zW 2 (mU [(9,nI i)]) id;apply qB 2;refine aT (σ:=(List Sm×Nat)) (fun ⟨a,j⟩=>[(0,.own 0 0 l.length),(1,.int .i64 0),(2,.int .i64 ((l.length:Nat):Int)),(3,.fn (.func 73) [] []),(8,.int .i64 ((i:Nat):Int)),(9,.int .i64 ((j:Nat):Int))]) (fun ⟨a,j⟩=>[.arr 2 (a.map Sm.v) 0]) (fun ⟨a,j⟩=>i7 j a=i7 i (jK i l)/\a.length=l.length/\j<=i) (fun ⟨a,j⟩=>j) (jK i l,i) kq (by exact ⟨rfl,hil,Nat.le_refl _⟩) (fg kq kq aA gP) ?_;rintro ⟨a,j⟩ hJ;have hal:=hJ.2.1;have hji:=hJ.2.2;refine zZ (fun _=>[(0,.own 0 0 l.length),(1,.int .i64 0),(2,nI l.length),(3,.fn (.func 73) [] []),(8,nI i),(9,nI j)]) (fun _=>[.arr 2 (a.map Sm.v) 0]) ?_ ?_;apply ai;apply ai;refine zD cxM kq ax ?_;apply qu 4;by_cases hb2:((j:Nat):Int) > 0;refine fq 20 (zy j) (.bool true) (fu ax) kq (congrArg aa.bool (decide_eq_true hb2)) ?_;refine fq 21 (zy j) (.bool true) (fu ax) kq (congrArg aa.bool (decide_eq_true hb2)) ?_;apply qu 3;refine qd (bD (k:=.i64) (i:=((j:Nat):Int)) (o:=0) (off:=0) (len:=l.length) (sz:=2) (fr:=0) (es:=(a.map Sm.v)) kq di e9 kq rfl rN ar ar) ?_ ?_ ?_ ?_;refine qd (c7 (t:=58) (o:=0) (idx:=(0+j)) (off:=0) (k:=((a.map Sm.v).length)) (sz:=2) (fr:=0) (es:=(a.map Sm.v)) (x:=Sm.v (AL a j)) (v:=.agg (MR a j)) kq kq zq (c6 _ _ _ _ ar) N3) ?_ ?_ ?_ ?_;apply qu 2;refine qd (eZ (a:=((j:Nat):Int)) (b:=1) kq ar ar) ?_ ?_ ?_ ?_;refine qd (bD (k:=.i64) (i:=(((j:Nat):Int) - 1)) (o:=0) (off:=0) (len:=l.length) (sz:=2) (fr:=0) (es:=(a.map Sm.v)) kq di e9 kq rfl rN ar ar) ?_ ?_ ?_ ?_;refine qd (c7 (t:=58) (o:=0) (idx:=(uD j)) (off:=0) (k:=((a.map Sm.v).length)) (sz:=2) (fr:=0) (es:=(a.map Sm.v)) (x:=Sm.v (rz a j)) (v:=.agg (Lg a j)) kq kq zq (c6 _ _ _ _ ar) N3) ?_ ?_ ?_ ?_;refine qQ (Ny (AL a j) (rz a j)) bk bk bk kq ?_;apply qu 2;refine bY kq ⟨kq,?_⟩;refine zE (mU [(22,.fn (.func 73) [] []),(23,.own 0 0 l.length),(24,nI j),(25,.pown 0 (0+j) 0 (a.map Sm.v).length),(26,.agg (MR a j)),(27,.own 0 0 l.length),(28,nI j),(29,.int .i64 (J2 j)),(30,.pown 0 (uD j) 0 (a.map Sm.v).length),(31,.agg (Lg a j)),(32,.int .i64 (i6 (AL a j).name (rz a j).name)),(33,.bool (decide ((i6 (AL a j).name (rz a j).name)<0))),(34,.bool (decide ((i6 (AL a j).name (rz a j).name)<0)))]) id ?_ ?_;by_cases hb3:(P5 a j)<0;apply qt (decide_eq_true hb3);apply qK;apply zZ (mT [] [34]) id;apply ai;apply qB 3;refine zD cxM kq (df ax) ?_;apply qu 4;refine qd (eZ (a:=((j:Nat):Int)) (b:=1) kq ar ar) ?_ ?_ ?_ ?_;apply qu 2;refine qd (eZ (a:=((j:Nat):Int)) (b:=1) kq ar ar) ?_ ?_ ?_ ?_;refine qd (bD (k:=.i64) (i:=(((j:Nat):Int) - 1)) (o:=0) (off:=0) (len:=l.length) (sz:=2) (fr:=0) (es:=(a.map Sm.v)) kq di e9 kq rfl rN ar ar) ?_ ?_ ?_ ?_;refine qd (c7 (t:=58) (o:=0) (idx:=(uD j)) (off:=0) (k:=((a.map Sm.v).length)) (sz:=2) (fr:=0) (es:=(a.map Sm.v)) (x:=Sm.v (rz a j)) (v:=.agg (Lg a j)) kq kq zq (c6 _ _ _ _ ar) N3) ?_ ?_ ?_ ?_;apply qu 2;refine qd (bD (k:=.i64) (i:=((j:Nat):Int)) (o:=0) (off:=0) (len:=l.length) (sz:=2) (fr:=0) (es:=(a.map Sm.v)) kq di e9 kq rfl rN ar ar) ?_ ?_ ?_ ?_;refine qd (c7 (t:=58) (o:=0) (idx:=(0+j)) (off:=0) (k:=((a.map Sm.v).length)) (sz:=2) (fr:=0) (es:=(a.map Sm.v)) (x:=Sm.v (AL a j)) (v:=.agg (MR a j)) kq kq zq (c6 _ _ _ _ ar) N3) ?_ ?_ ?_ ?_;refine qd (bD (k:=.i64) (i:=((j:Nat):Int)) (o:=0) (off:=0) (len:=l.length) (sz:=2) (fr:=0) (es:=(a.map Sm.v)) kq di e9 kq rfl rN ar ar) ?_ ?_ ?_ ?_;refine qD (ix (o:=0) (k:=((a.map Sm.v).length)) (x:=.agg (Lg a j)) (enc:=Sm.v) (l:=a) (X:=(rz a j)) (d:=Sm.zero) (idx:=(0+j)) (sz:=2) kq (Sm.v_v (rz a j)).symm kq zq ar e9 IQ DD) ?_ ?_ ?_ ?_;refine qd (bD (k:=.i64) (i:=(((j:Nat):Int) - 1)) (o:=0) (off:=0) (len:=l.length) (sz:=2) (fr:=0) (es:=((a.set (0+j) (FH a j)).map Sm.v)) kq di e9 kq rfl rN ar ar) ?_ ?_ ?_ ?_;refine qD (ix (o:=0) (k:=(((a.set (0+j) (rz a j)).map Sm.v).length)) (x:=.agg (MR a j)) (enc:=Sm.v) (l:=(a.set (0+j) (rz a j))) (X:=(AL a j)) (d:=Sm.zero) (idx:=(uD j)) (sz:=2) kq (Sm.v_v (AL a j)).symm kq zq ar e9 IQ DD) ?_ ?_ ?_ ?_;refine bY kq ⟨kq,?_⟩;refine ag ?_;apply ab;refine zZ (fun _=>[(0,.own 0 0 l.length),(1,.int .i64 0),(2,nI l.length),(3,.fn (.func 73) [] []),(8,nI i),(9,nI j),(22,.fn (.func 73) [] []),(23,.own 0 0 l.length),(24,nI j),(25,.pown 0 (0+j) 0 (a.map Sm.v).length),(26,.agg [.str (a.getD (0+j) Sm.zero).name,.imm ((a.getD (0+j) Sm.zero).ctors.map Ct.v)]),(27,.own 0 0 l.length),(28,nI j),(29,.int .i64 (((j:Nat):Int) - 1)),(30,.pown 0 (0+((((j:Nat):Int) - 1)).toNat) 0 (a.map Sm.v).length),(31,.agg [.str (FH a j).name,.imm ((FH a j).ctors.map Ct.v)]),(32,.int .i64 (P5 a j)),(33,.bool (decide ((P5 a j)<0)))]) (fun _=>[.arr 2 (((a.set (0+j) (FH a j)).set (0+((((j:Nat):Int) - 1)).toNat) (a.getD (0+j) Sm.zero)).map Sm.v) 0]) ?_ ?_;apply qo;apply qr 1;refine qy (eZ (a:=((j:Nat):Int)) (b:=1) kq ar ar) ?_ ?_ ?_;apply qr 1;apply qe;refine ab ⟨(uk a j,j - 1),?_,?_,⟨⟨kq,kq,kq,kq,kq,(Eq.trans (b:=.int .i64 (((j:Nat):Int) - 1)) kq (by exact congrArg (aa.int .i64) oq)),trivial⟩,aA,by simp,(Eq.trans (b:=[.arr 2 (((a.set (0+j) (FH a j)).set (0+((((j:Nat):Int) - 1)).toNat) (a.getD (0+j) Sm.zero)).map Sm.v) 0]) kq (by (try dsimp only);rw [Lt])),gP⟩⟩
 . try dsimp only
   omega
 . try dsimp only
   exact ⟨KX hJ.1 aq aq,by rw [n7];omega,by omega⟩
 iterate 46 kernel_rfl
 apply qf (decide_eq_false hb3);refine aK 2 kq kq ?_;apply ac;apply ac;refine ao ?_;refine ag ?_;apply ab;apply zZ (mT [] [9,34]) id;apply qo;apply qr 1;refine qy (az (a:=((i:Nat):Int)) (b:=1) kq ar ar) ?_ ?_ ?_;apply qr 1;apply qe;refine ab ⟨i+1,?_,?_,(fg kq (Eq.trans (b:=[.arr 2 (a.map Sm.v) 0]) kq TA) aA gP)⟩
 . omega
 . omega
 iterate 27 kernel_rfl
 refine fq 20 (zy j) (.bool false) (fu ax) kq (congrArg aa.bool (decide_eq_false hb2)) ?_;refine fq 21 (zy j) (.bool false) (fu ax) kq (congrArg aa.bool (decide_eq_false hb2)) ?_;apply qu 13;refine bY kq ⟨kq,?_⟩;refine zE (mU [(22,.tup []),(23,.tup []),(24,.tup []),(25,.tup []),(26,.tup []),(27,.tup []),(28,.tup []),(29,.tup []),(30,.tup []),(31,.tup []),(32,.tup []),(33,.tup []),(34,.bool false)]) id ?_ ?_;refine iu kq kq ?_;refine aK 2 kq kq ?_;apply ac;apply ac;refine ao ?_;refine ag ?_;apply ab;apply zZ (mT [] [9,34]) id;apply qo;apply qr 1;refine qy (az (a:=((i:Nat):Int)) (b:=1) kq ar ar) ?_ ?_ ?_;apply qr 1;apply qe;refine ab ⟨i+1,?_,?_,(fg kq (Eq.trans (b:=[.arr 2 (a.map Sm.v) 0]) kq TA) aA gP)⟩
 . omega
 . omega
 iterate 22 kernel_rfl
 apply qf (decide_eq_false hb1);refine aK 0 kq kq ?_;apply ac;apply ac;refine ao ?_;refine aO (l:=[]) (.inl rfl) kq (by rfl) aQ aQ ?_ ?_;refine Eq.trans (b:=[.arr 2 ((jK i l).map Sm.v) 0]) kq ?_
 . rw [Jz hi1 hi2 aq]
 . simp [am.belO,aC,aa.bel,Ty.v,Ex.v,Ct.v,Co.v,Rf.v,Sm.v,Tb.v_cs,Sc.v,Md.v,Pb.v,Ls.v,-List.map_take,-List.map_drop,-List.map_append,-List.map_set]
 iterate 7 kernel_rfl
theorem IG (l:List Sm) (lim:Int) (hl:l.length<=12):av cx 148 [.own 0 0 l.length,.int .i64 0,.int .i64 ((l.length:Nat):Int),.int .i64 (lim),.fn (.func 73) [] []] (yw l) (fun v h=>v=(.tup [])/\h=(F8 l)):=by
 refine fI 148 1 [] Tryz.func148 kq ?_;refine zZ (fun _=>[(0,.own 0 0 l.length),(1,.int .i64 0),(2,nI l.length),(3,.int .i64 (lim)),(4,.fn (.func 73) [] [])]) (fun _=>(yw l)) ?_ ?_;apply zW 1 (mU [(10,.bool true)]) id;apply zW 1 (mU [(11,.bool true)]) id;apply qB 0;refine SF 1 kq ?_;refine Vs ?_;apply qB 1;apply zV 2;refine qy (eZ (a:=((l.length:Nat):Int)) (b:=0) kq ar ar) ?_ ?_ ?_;refine zR 1 (fun _=>[(0,.own 0 0 l.length),(1,.int .i64 0),(2,nI l.length),(3,.int .i64 (lim)),(4,.fn (.func 73) [] []),(10,.bool true),(11,.bool true),(12,.int .i64 (((l.length:Nat):Int) - 0))]) (fun _=>(yw l)) ?_ ?_;apply ai;apply zW 2 (mU [(25,.bool (decide ((((l.length:Nat):Int) - 0)<=12)))]) id;by_cases hb1:(((l.length:Nat):Int) - 0)<=12;apply qt (decide_eq_true hb1);apply zV 4;refine qA (IY l oq) gP gP rfl gP gP kq ?_;refine zN (fun _=>[]) (fun _=>(F8 l)) ?_ ?_;refine aJ kq ?_;apply aR;apply iR;apply aR;apply iR;refine aO (l:=[]) (.inr rfl) kq (by rfl) aQ aQ ?_ ?_;refine Eq.trans (b:=(F8 l)) kq ?_
 . rfl
 . simp [am.belO,aC,aa.bel,Ty.v,Ex.v,Ct.v,Co.v,Rf.v,Sm.v,Tb.v_cs,Sc.v,Md.v,Pb.v,Ls.v,-List.map_take,-List.map_drop,-List.map_append,-List.map_set]
 iterate 3 kernel_rfl
 . exfalso;omega
 iterate 13 kernel_rfl
theorem HM (l:List Sm) (hl:l.length<=12):av cx 72 [.own 0 0 l.length,.fn (.func 73) [] []] (yw l) (fun v h=>v=(.tup [])/\h=(F8 l)):=by
 refine fI 14 1 [] Tryz.func72 kq ?_;refine zZ (fun _=>[(0,.own 0 0 l.length),(1,.fn (.func 73) [] [])]) (fun _=>(yw l)) ?_ ?_;apply zV 1;refine qy (cu (o:=0) (off:=0) (len:=l.length) (sz:=2) (es:=(l.map Sm.v)) (fr:=0) kq di kq zq) ?_ ?_ ?_;refine zR 1 (fun _=>[(0,.own 0 0 l.length),(1,.fn (.func 73) [] []),(4,nI l.length)]) (fun _=>(yw l)) ?_ ?_;apply qo;apply qr 3;refine qy (IT (k:=.i64) (n:=((l.length:Nat):Int)) kq ty3 PD (by simp [IntKind.wrap,IntKind.bits,IntKind.signed];omega)) ?_ ?_ ?_;refine qc [.int .u64 ((l.length:Nat):Int)] (wE l.length ar) ?_ ?_;apply qr 1;refine qA (IG l (Rg l.length) oq) gP gP rfl gP gP kq ?_;apply qe;refine aO (l:=[]) (.inl rfl) kq (by rfl) aQ aQ ?_ ?_;refine Eq.trans (b:=(F8 l)) kq ?_
 . rfl
 . simp [am.belO,aC,aa.bel,Ty.v,Ex.v,Ct.v,Co.v,Rf.v,Sm.v,Tb.v_cs,Sc.v,Md.v,Pb.v,Ls.v,-List.map_take,-List.map_drop,-List.map_append,-List.map_set]
 iterate 12 kernel_rfl
theorem wR (l:List Ct) (hn:l.length<1000000):ae cx 55 [.imm (l.map Ct.v)] (.imm (l.map Ct.v)) :=
 eD (yl (l.map Ct.v) [] (gr (fun _=>rfl) l) (by simp [iC];omega) rfl (Bq _ l)) Ij zq
theorem RG (L:List (List UInt8)) {i:Nat} (h:i<L.length):((sm1 L).getD i (([]:List UInt8),false)).1=L.getD i []:=by
 rw [List.getD_eq_getElem?_getD,List.getD_eq_getElem?_getD,List.getElem?_eq_getElem (by rw [DG];exact h),List.getElem?_eq_getElem h];simp [sm1]
theorem UH {ct L:List (List UInt8)} {lf:List Nat} {C:List lE} (h:CtI ct L lf C) {i:Nat} (hi:i∈lf):CtI ct L (lf.filter (fun j=>!(Nat.beq j i))) (bJ ((sm1 L).getD i (([]:List UInt8),false)).1 true C):=by
 rw [RG L (h.1 i hi)];exact Tj h hi
theorem SB {ct:List (List UInt8)} {L:List Ct} {j:Nat} {lf:List Nat} {C:List lE} (h:CtI ct ((L.take j).map Ct.name) lf C) (hl:lf=[]) (hj:¬ ((j:Nat):Int)<((L.length:Nat):Int)):CtO (ct++L.map Ct.name) C:=by
 subst hl;rw [List.take_of_length_le oq] at h;exact Sp h
theorem Dg (lf:List Nat) (i:Nat) (hi:i∈lf):(lf.filter (fun j=>!(Nat.beq j i))).length<lf.length:=by
 rcases Nat.lt_or_ge (lf.filter (fun j=>!(Nat.beq j i))).length lf.length with h|h
 . exact h
 . have he:lf.filter (fun j=>!(Nat.beq j i))=lf:=List.Sublist.eq_of_length_le List.filter_sublist h;rw [<- he] at hi;have:=(List.mem_filter.1 hi).2;rw [Nat.beq_refl] at this;cases this
theorem BH {l:List (List UInt8)} {n:List UInt8} (h:¬ aV (sm1 l) n=true):bJ n true (sm1 l)=sm1 (l++[n]):=za l n (by rw [<- mg];exact Bool.eq_false_iff.2 h)
theorem IH {l:List (List UInt8)} {n:List UInt8} (h:¬ aV (sm1 l) n=true):l.contains n=false:=by rw [<- mg];exact Bool.eq_false_iff.2 h
section
variable {D J:List UInt8->Bool} {X:Ct->Bool} {V:List Md} {i k j:Nat} {C:List (List UInt8×Bool)}
abbrev pdS (D J:List UInt8->Bool) (X:Ct->Bool) (V:List Md) (i k:Nat):List (List UInt8):=(pD D J X V i k).seen++[((V.getD i Md.zero).decls.getD k Dc.zero).name]
theorem QA (h:¬ ((V.getD i Md.zero).decls.getD k Dc.zero).kind=0):pD D J X V i (k+1)=pD D J X V i k:=SE (doc:=(V.getD i Md.zero).name) h
theorem P1 (h:aV (sm1 (pD D J X V i k).seen) ((V.getD i Md.zero).decls.getD k Dc.zero).name=true):pD D J X V i (k+1)=pD D J X V i k:=Wq (doc:=(V.getD i Md.zero).name) (by rw [<- mg];exact h)
theorem M2 (h:((V.getD i Md.zero).decls.getD k Dc.zero).kind=0) (h2:¬ aV (sm1 (pD D J X V i k).seen) ((V.getD i Md.zero).decls.getD k Dc.zero).name=true) (h3:okS D (gI J X) (pD D J X V i k).ct ((V.getD i Md.zero).decls.getD k Dc.zero)=false):pD D J X V i (k+1)=⟨pdS D J X V i k,(pD D J X V i k).ct,(pD D J X V i k).out⟩:=WK (doc:=(V.getD i Md.zero).name) h (IH h2) h3
theorem Qy (h:((V.getD i Md.zero).decls.getD k Dc.zero).kind=0) (h2:¬ aV (sm1 (pD D J X V i k).seen) ((V.getD i Md.zero).decls.getD k Dc.zero).name=true) (h3:okS D (gI J X) (pD D J X V i k).ct ((V.getD i Md.zero).decls.getD k Dc.zero)=true):pD D J X V i (k+1)=⟨pdS D J X V i k,(pD D J X V i k).ct++((V.getD i Md.zero).decls.getD k Dc.zero).sum.ctors.map Ct.name,(pD D J X V i k).out++[⟨((V.getD i Md.zero).decls.getD k Dc.zero).name,((V.getD i Md.zero).decls.getD k Dc.zero).sum.ctors⟩]⟩:=UU (doc:=(V.getD i Md.zero).name) h (IH h2) h3
abbrev nl (V:List Md)(i:Nat)(k:Nat)(j:Nat):=((V.getD i Md.zero).decls.getD k Dc.zero).sum.ctors.getD j Ct.zero
theorem oka (hj:j<((V.getD i Md.zero).decls.getD k Dc.zero).sum.ctors.length) (h:¬ J (nl V i k j).name=true):okS D (gI J X) (pD D J X V i k).ct ((V.getD i Md.zero).decls.getD k Dc.zero)=false:=DM hj (by rw [gI,Bool.eq_false_iff.2 h];rfl)
abbrev s6 (V:List Md)(i:Nat)(k:Nat)(j:Nat):=(((V.getD i Md.zero).decls.getD k Dc.zero).sum.ctors.take j).map Ct.name
theorem okb (hj:j<((V.getD i Md.zero).decls.getD k Dc.zero).sum.ctors.length) (h:aV (sm1 (s6 V i k j)) (nl V i k j).name=true):okS D (gI J X) (pD D J X V i k).ct ((V.getD i Md.zero).decls.getD k Dc.zero)=false:=DM hj (by rw [mg] at h;rw [h];simp)
theorem okc (hj:j<((V.getD i Md.zero).decls.getD k Dc.zero).sum.ctors.length) (hC:CtO (pD D J X V i k).ct C) (h:aV C (nl V i k j).name=true):okS D (gI J X) (pD D J X V i k).ct ((V.getD i Md.zero).decls.getD k Dc.zero)=false:=DM hj (by rw [hC] at h;rw [h];simp)
theorem okd (hj:j<((V.getD i Md.zero).decls.getD k Dc.zero).sum.ctors.length) (h:¬ X (nl V i k j)=true):okS D (gI J X) (pD D J X V i k).ct ((V.getD i Md.zero).decls.getD k Dc.zero)=false:=DM hj (by rw [gI,Bool.eq_false_iff.2 h];simp)
theorem oke (hC:CtO (pD D J X V i k).ct C) (h0:okC (gI J X) (pD D J X V i k).ct ((V.getD i Md.zero).decls.getD k Dc.zero).sum.ctors j=true) (h1:J (nl V i k j).name=true) (h2:¬ aV (sm1 (s6 V i k j)) (nl V i k j).name=true) (h3:¬ aV C (nl V i k j).name=true) (h4:X (nl V i k j)=true) :
 okC (gI J X) (pD D J X V i k).ct ((V.getD i Md.zero).decls.getD k Dc.zero).sum.ctors (j+1)=true:=Ss h0 (by rw [gI,h1,h4];rfl) (IH h2) (by rw [hC] at h3;exact Bool.eq_false_iff.2 h3)
theorem WR (hj:j<((V.getD i Md.zero).decls.getD k Dc.zero).sum.ctors.length) (h2:¬ aV (sm1 (s6 V i k j)) (nl V i k j).name=true):bJ (nl V i k j).name true (sm1 (s6 V i k j))=sm1 ((((V.getD i Md.zero).decls.getD k Dc.zero).sum.ctors.take (j+1)).map Ct.name):=by
 rw [BH h2,Sj _ hj]
end
abbrev fE (V:List Md)(i:Nat)(k:Nat)(j:Nat):=((bM V i k).sum.ctors.getD j Ct.zero)
abbrev Lb (V:List Md)(i:Nat)(k:Nat)(j:Nat):List aa:=[.str (fE V i k j).name,.bool ((fE V i k j).has),.int .i64 ((fE V i k j).arg.kind),.str (fE V i k j).arg.name,.int .i64 ((fE V i k j).arg.n),.imm ((fE V i k j).arg.names.map aa.str),.imm ((fE V i k j).arg.kids.map Ty.enc)]
abbrev sG (V:List Md)(i:Nat)(k:Nat)(j:Nat):=(sm1 (((bM V i k).sum.ctors.take j).map Ct.name))
abbrev Fy (V:List Md)(i:Nat)(k:Nat):=(((bM V i k).sum.ctors.length:Nat):Int)
abbrev PT (D:List UInt8->Bool)(J:List UInt8->Bool)(X:Ct->Bool)(V:List Md)(i:Nat)(C:List (List UInt8×Bool)):List am:=[.arr 2 ((pI D J X V i).out.map Sm.v) 0,.map (ay aa.str aa.bool (sm1 (pI D J X V i).seen)),.map (ay aa.str aa.bool C)]
abbrev IA (V:List Md)(i:Nat):List aa:=[.str (eW V i).name,.imm (lc V i)]
abbrev FR (V:List Md)(i:Nat)(k:Nat):=((bM V i k).sum.ctors.map Ct.v)
abbrev Ma :=(mT [] [9,10,12,55,56,57,81])
abbrev G3 (V:List Md)(i:Nat)(k:Nat):=((bM V i k).sum.ctors.length)
abbrev zF (D:List UInt8->Bool)(J:List UInt8->Bool)(X:Ct->Bool)(V:List Md)(i:Nat)(k:Nat):=(aV (sm1 (pD D J X V i k).seen) ((bM V i k).name))
theorem mS {p:Prop} (h:p:=by simp [am.belO,aC,cw,aa.bel,Ty.v,Ex.v,Ct.v,Co.v,Rf.v,Sm.v,Tb.v_cs,Sc.v,Md.v,Pb.v,Ls.v,-List.map_take,-List.map_drop,-List.map_append]):p:=h
theorem GV {p:Prop} (h:p:=by rw [M2 aq aq (by first|exact DF (Bool.eq_false_iff.2 aq)|exact D8 oq|exact oka (j:=j) oq aq|exact okb (j:=j) oq aq|exact okc (j:=j) oq aq aq|exact okd (j:=j) oq aq)]):p:=h
theorem ML {p:Prop} (h:p:=by (try dsimp only);rw [M2 aq aq (by first|exact DF (Bool.eq_false_iff.2 aq)|exact D8 oq|exact oka (j:=j) oq aq|exact okb (j:=j) oq aq|exact okc (j:=j) oq aq aq|exact okd (j:=j) oq aq)] <;> (show _=_;kernel_rfl)):p:=h
theorem Sn {p:Prop} (h:p:=by (try dsimp only);rw [BH aq];rw [M2 aq aq (by first|exact DF (Bool.eq_false_iff.2 aq)|exact D8 oq|exact oka (j:=j) oq aq|exact okb (j:=j) oq aq|exact okc (j:=j) oq aq aq|exact okd (j:=j) oq aq)] <;> (show _=_;kernel_rfl)):p:=h
theorem Tu {p:Prop} (h:p:=by simp [cQ,aF,aa.owns,Ty.v,Ex.v,Ct.v,Co.v,Rf.v,Sm.v,Tb.v_cs,Sc.v,Md.v,Pb.v,Ls.v,-List.map_take,-List.map_drop,-List.map_append]):p:=h
abbrev rq (V:List Md)(i:Nat):List aa:=[.str (V.getD i Md.zero).name,.imm ((V.getD i Md.zero).decls.map Dc.v)]
abbrev Jk (D:List UInt8->Bool)(J:List UInt8->Bool)(X:Ct->Bool)(V:List Md)(i:Nat)(k:Nat):=ay aa.str aa.bool (sm1 ((pD D J X V i k).seen++[((V.getD i Md.zero).decls.getD k Dc.zero).name]))
abbrev mQ (C:List (List UInt8×Bool)):=ay aa.str aa.bool C
abbrev CM (V:List Md)(i:Nat)(k:Nat):=((V.getD i Md.zero).decls.getD k Dc.zero).name
abbrev MW (D:List UInt8->Bool)(J:List UInt8->Bool)(X:Ct->Bool)(V:List Md)(i:Nat)(k:Nat)(C:List (List UInt8×Bool)):List am:=[.arr 2 ((pD D J X V i k).out.map Sm.v) 0,.map (Jk D J X V i k),.map (mQ C),.box (rq V i)]
abbrev Mm (V:List Md)(i:Nat)(k:Nat):=Dc.cs ((V.getD i Md.zero).decls.getD k Dc.zero)
abbrev RQ (V:List Md)(i:Nat)(k:Nat):=((V.getD i Md.zero).decls.getD k Dc.zero).sum.ctors.map Ct.v
theorem vH (D J:List UInt8->Bool) (X:Ct->Bool) (V:List Md) (hf:o9 D J X V):ae cx 24 [.imm (V.map Md.v)] (.imm ((en D J X V).map Sm.v)):=by
 have hmn:=hf.n;have hzA:=WQ hf;refine fI 109 0 [(ResultVar.tmp 2)] Tryz.func24 kq ?_;refine zZ (fun _=>[(0,.imm (V.map Md.v))]) (fun _=>[]) ?_ ?_;apply zW 1 id id;apply zW 1 (mU [(3,.full [])]) id;refine jg 3 2 dq kq ?_;apply zZ (mK 1 [] []) (mO [(0,.arr 2 (([]:List (Sm)).map Sm.v) 0)]);apply zW 2 (mU [(4,.map 1)]) (mH [] [.map xv]);apply zW 2 (mU [(5,.map 2)]) (mH [] [.map xv]);apply ai;apply zV 1;refine qy (aj (l:=V) (enc:=Md.v) kq F4) ?_ ?_ ?_;apply zR 1 (mT [(16,.imm (V.map Md.v)),(17,nI V.length),(18,.int .i64 0)] [0]) id;apply qB 0;refine aT (σ:=(Nat×List lE)) (fun ⟨i,C⟩=>[(3,.own 0 0 (pI D J X V i).out.length),(4,.map 1),(5,.map 2),(16,.imm (V.map Md.v)),(17,.int .i64 ((V.length:Nat):Int)),(18,.int .i64 ((i:Nat):Int))]) (fun ⟨i,C⟩=>[.arr 2 ((pI D J X V i).out.map Sm.v) 0,.map (ay aa.str aa.bool (sm1 (pI D J X V i).seen)),.map (mQ C)]) (fun ⟨i,C⟩=>i<=V.length/\CtO (pI D J X V i).ct C) (fun ⟨i,C⟩=>V.length - i) (0,[]) kq (by exact ⟨Nat.zero_le _,fun _=>rfl⟩) (fg kq (Eq.trans (b:=[.arr 2 (([]:List (Sm)).map Sm.v) 0,.map E9,.map E9]) kq (by (try dsimp only);kernel_rfl)) aA mS) ?_;rintro ⟨i,C⟩ ⟨hi,hC⟩;have hmi:=hf.m i;have hz1:=(szI hf (by omega:i<=V.length)).1.2.1;refine zZ (fun _=>[(3,.own 0 0 (pI D J X V i).out.length),(4,.map 1),(5,.map 2),(16,.imm (V.map Md.v)),(17,nI V.length),(18,nI i)]) (fun _=>(PT D J X V i C)) ?_ ?_;apply zW 1 (mU [(19,.bool (decide (((i:Nat):Int)<((V.length:Nat):Int))))]) id;apply ai;by_cases hb1:((i:Nat):Int)<((V.length:Nat):Int);apply qt (decide_eq_true hb1);apply qK;apply zZ (mT [] [19]) id;apply ai;apply qB 1;refine zO ?_ ?_;refine qy ((au (k:=.i64) (l:=V) (enc:=Md.v) (i:=((i:Nat):Int)) Md.zero kq F4 QZ (fun _=>rfl) ar ar).trans (congrArg (fun cs=>some (aa.pimm cs 0,_)) (sR (eW V i)))) ?_ ?_ ?_;apply zR 3 (mU [(7,.ptr 3 0)]) (mH [] [.box (IA V i)]);refine RC kq ?_;apply ai;refine QQ kq ?_;apply ab;apply zZ id id;apply zV 2;refine qy (aj (l:=(eW V i).decls) (enc:=Dc.v) kq gS) ?_ ?_ ?_;apply zR 1 (mT [(23,.imm (lc V i)),(24,nI ((eW V i).decls.length)),(25,.int .i64 0)] [7]) id;apply qB 2;refine aT (σ:=(Nat×List lE)) (fun ⟨k,C⟩=>[(3,.own 0 0 (pD D J X V i k).out.length),(4,.map 1),(5,.map 2),(16,.imm (V.map Md.v)),(17,.int .i64 ((V.length:Nat):Int)),(18,.int .i64 ((i:Nat):Int)),(23,.imm ((V.getD i Md.zero).decls.map Dc.v)),(24,.int .i64 (((V.getD i Md.zero).decls.length:Nat):Int)),(25,.int .i64 ((k:Nat):Int))]) (fun ⟨k,C⟩=>[.arr 2 ((pD D J X V i k).out.map Sm.v) 0,.map (ay aa.str aa.bool (sm1 (pD D J X V i k).seen)),.map (mQ C),.box (rq V i)]) (fun ⟨k,C⟩=>k<=(V.getD i Md.zero).decls.length/\CtO (pD D J X V i k).ct C) (fun ⟨k,C⟩=>(V.getD i Md.zero).decls.length - k) (0,C) kq (by exact ⟨Nat.zero_le _,hC⟩) (fg kq (Eq.trans (b:=[.arr 2 ((pI D J X V i).out.map Sm.v) 0,.map (ay aa.str aa.bool (sm1 (pI D J X V i).seen)),.map (mQ C),.box (rq V i)]) kq (by (try dsimp only);kernel_rfl)) aA mS) ?_;rintro ⟨k,C⟩ ⟨hk,hC⟩;have hz2:=(szD hf (by omega:i<V.length) hk).1.2.1;refine zZ (fun _=>[(3,.own 0 0 (pD D J X V i k).out.length),(4,.map 1),(5,.map 2),(16,.imm (V.map Md.v)),(17,nI V.length),(18,nI i),(23,.imm (lc V i)),(24,nI ((eW V i).decls.length)),(25,nI k)]) (fun _=>[.arr 2 ((pD D J X V i k).out.map Sm.v) 0,.map (ay aa.str aa.bool (sm1 (pD D J X V i k).seen)),.map (mQ C),.box (IA V i)]) ?_ ?_;apply zW 1 (mU [(26,.bool (decide (((k:Nat):Int)<(((eW V i).decls.length:Nat):Int))))]) id;apply ai;by_cases hb2:((k:Nat):Int)<(((V.getD i Md.zero).decls.length:Nat):Int);apply qt (decide_eq_true hb2);apply qK;apply zZ (mT [] [26]) id;apply ai;apply qB 3;refine zO ?_ ?_;refine qy ((au (k:=.i64) (l:=(eW V i).decls) (enc:=Dc.v) (i:=((k:Nat):Int)) Dc.zero kq gS rV (fun _=>rfl) ar ar).trans (congrArg (fun cs=>some (aa.pimm cs 0,_)) (om (bM V i k)))) ?_ ?_ ?_;apply zR 3 (mU [(9,.ptr 4 0)]) (mH [] [.box (Dc.cs (bM V i k))]);apply ai;apply zV 4;by_cases hb3:(((V.getD i Md.zero).decls.getD k Dc.zero).kind)=0;refine zm [31,32] (x:=(((bM V i k).kind) != 0)) (bne_eq_false_iff_eq.2 hb3) ?_ ?_;apply qr 3;refine qy (kV (a2:=0) (b2:=0) (ok:=false) (o:=1) (ek:=aa.str) (ev:=aa.bool) (l:=(sm1 (pD D J X V i k).seen)) (k:=((bM V i k).name)) eN kq fd ty9 kq ty4 kq false kq) ?_ ?_ ?_;apply zR 1 (mU [(33,.map 1),(34,.ptr 4 1),(35,.str (bM V i k).name),(36,.bool (zF D J X V i k)),(37,.bool (zF D J X V i k))]) id;by_cases hb4:(aV (sm1 (pD D J X V i k).seen) (CM V i k))=true;apply qt (hb4);refine aK 3 kq kq ?_;apply ac;refine ao ?_;apply ab;apply zZ (mT [] [9,37]) id;apply qo;refine qy (az (a:=((k:Nat):Int)) (b:=1) kq ar ar) ?_ ?_ ?_;apply qr 1;apply qe;refine ab ⟨(k+1,C),?_,?_,⟨⟨(hT (by rw [P1 aq]) kq),kq,kq,kq,kq,kq,kq,kq,kq,trivial⟩,aA,by simp,(Eq.trans (b:=[.arr 2 ((pD D J X V i k).out.map Sm.v) 0,.map (ay aa.str aa.bool (sm1 (pD D J X V i k).seen)),.map (mQ C),.box (rq V i)]) kq (by (try dsimp only);rw [P1 aq] <;> (show _=_;kernel_rfl))),mS⟩⟩
 . try dsimp only
   omega
 rotate_left
 iterate 7 kernel_rfl
 apply qf (Bool.eq_false_iff.2 hb4);apply qK;apply zZ (mT [] [37]) id;apply zV 3;refine qY (c5 (o:=1) (ek:=aa.str) (ev:=aa.bool) (l:=(sm1 (pD D J X V i k).seen)) (k:=((bM V i k).name)) (x:=true) eN kq fd ty9 rfl kq kq) ?_ ?_ ?_;refine zN id (mO [(1,.map (ay aa.str aa.bool (bJ ((bM V i k).name) true (sm1 (pD D J X V i k).seen))))]) ?_ ?_;apply ai;apply zV 2;refine qc [.str (bM V i k).name] ((hf.d i oq k oq aq).hn) ?_ ?_;apply qr 2;by_cases hb5:(D ((V.getD i Md.zero).decls.getD k Dc.zero).name)=true;refine zm [44,45] (x:=(!(D (bM V i k).name))) (congrArg not (hb5)) ?_ ?_;apply qr 3;refine qy (aj (l:=(bM V i k).sum.ctors) (enc:=Ct.v) kq gM) ?_ ?_ ?_;apply zR 2 (mU [(46,.ptr 4 2),(47,.ptr 4 3),(48,.imm (FR V i k)),(49,nI (G3 V i k)),(50,.bool ((Fy V i k)==0)),(51,.bool ((Fy V i k)==0))]) id;by_cases hb6:((((V.getD i Md.zero).decls.getD k Dc.zero).sum.ctors.length:Nat):Int)=0;apply qt (beq_iff_eq.2 hb6);refine aK 3 kq kq ?_;apply ac;refine ao ?_;apply ab;apply zZ (mT [] [9,51]) id;apply qo;refine qy (az (a:=((k:Nat):Int)) (b:=1) kq ar ar) ?_ ?_ ?_;apply qr 1;apply qe;refine ab ⟨(k+1,C),?_,?_,⟨⟨(hT GV kq),kq,kq,kq,kq,kq,kq,kq,kq,trivial⟩,aA,by simp,(Eq.trans (b:=[.arr 2 ((pD D J X V i k).out.map Sm.v) 0,.map (ay aa.str aa.bool (bJ (CM V i k) true (sm1 (pD D J X V i k).seen))),.map (mQ C),.box (rq V i)]) kq Sn),mS⟩⟩
 . try dsimp only
   omega
 rotate_left
 iterate 7 kernel_rfl
 apply qf (beq_eq_false_iff_ne.2 hb6);apply qK;apply zZ (mT [] [51]) id;apply zW 2 (mU [(10,.map 5)]) (mH [] [.map xv]);apply ai;apply zV 3;refine qy (aj (l:=(bM V i k).sum.ctors) (enc:=Ct.v) kq gM) ?_ ?_ ?_;apply zR 1 (mU [(55,.imm (FR V i k)),(56,nI (G3 V i k)),(57,.int .i64 0)]) id;apply qB 4;refine aT (σ:=Nat) (fun j=>[(3,.own 0 0 (pD D J X V i k).out.length),(4,.map 1),(5,.map 2),(9,.ptr 4 0),(10,.map 5),(16,.imm (V.map Md.v)),(17,.int .i64 ((V.length:Nat):Int)),(18,.int .i64 ((i:Nat):Int)),(23,.imm ((V.getD i Md.zero).decls.map Dc.v)),(24,.int .i64 (((V.getD i Md.zero).decls.length:Nat):Int)),(25,.int .i64 ((k:Nat):Int)),(33,.map 1),(34,.ptr 4 1),(35,.str ((V.getD i Md.zero).decls.getD k Dc.zero).name),(36,.bool (aV (sm1 (pD D J X V i k).seen) (CM V i k))),(46,.ptr 4 2),(47,.ptr 4 3),(48,.imm (RQ V i k)),(49,.int .i64 ((((V.getD i Md.zero).decls.getD k Dc.zero).sum.ctors.length:Nat):Int)),(50,.bool (((((V.getD i Md.zero).decls.getD k Dc.zero).sum.ctors.length:Nat):Int)==0)),(55,.imm (RQ V i k)),(56,.int .i64 ((((V.getD i Md.zero).decls.getD k Dc.zero).sum.ctors.length:Nat):Int)),(57,.int .i64 ((j:Nat):Int))]) (fun j=>[.arr 2 ((pD D J X V i k).out.map Sm.v) 0,.map (Jk D J X V i k),.map (mQ C),.box (rq V i),.box (Mm V i k),.map (ay aa.str aa.bool (sm1 (s6 V i k j)))]) (fun j=>j<=((V.getD i Md.zero).decls.getD k Dc.zero).sum.ctors.length/\okC (gI J X) (pD D J X V i k).ct ((V.getD i Md.zero).decls.getD k Dc.zero).sum.ctors j=true) (fun j=>((V.getD i Md.zero).decls.getD k Dc.zero).sum.ctors.length - j) 0 kq (by exact ⟨Nat.zero_le _,rfl⟩) (fg kq (Eq.trans (b:=[.arr 2 ((pD D J X V i k).out.map Sm.v) 0,.map (ay aa.str aa.bool (bJ (CM V i k) true (sm1 (pD D J X V i k).seen))),.map (mQ C),.box (rq V i),.box (Mm V i k),.map E9]) kq (by rw [BH aq] <;> (show _=_;kernel_rfl))) aA mS) ?_;rintro j ⟨hj,hO⟩;have hjl:=(hf.d i oq k oq aq).len;apply zW 1 (mU [(58,.bool (decide (((j:Nat):Int)<(Fy V i k))))]) id;apply ai;by_cases hb7:((j:Nat):Int)<((((V.getD i Md.zero).decls.getD k Dc.zero).sum.ctors.length:Nat):Int);apply qt (decide_eq_true hb7);apply qK;apply zZ (mT [] [58]) id;apply ai;apply qB 5;refine zO ?_ ?_;refine qy ((au (k:=.i64) (l:=(bM V i k).sum.ctors) (enc:=Ct.v) (i:=((j:Nat):Int)) Ct.zero kq gM mn (fun _=>rfl) ar ar).trans (congrArg (fun cs=>some (aa.pimm cs 0,_)) (fW (fE V i k j)))) ?_ ?_ ?_;apply zR 3 (mU [(12,.ptr 6 0)]) (mH [] [.box (Lb V i k j)]);apply ai;apply zV 2;refine qc [.int .i64 3,.str (fE V i k j).name] ((hf.d i oq k oq aq).hf j oq) ?_ ?_;apply qr 2;by_cases hb8:(J (nl V i k j).name)=true;refine zm [64,65] (x:=(!(J (fE V i k j).name))) (congrArg not (hb8)) ?_ ?_;apply qr 3;refine qy (kV (a2:=0) (b2:=0) (ok:=false) (o:=5) (ek:=aa.str) (ev:=aa.bool) (l:=(sG V i k j)) (k:=((fE V i k j).name)) eN kq fd ty9 kq ty4 kq false kq) ?_ ?_ ?_;apply qr 2;by_cases hb9:(aV (sm1 (s6 V i k j)) ((nl V i k j).name))=true;refine zm [69,70,71] (hb9) ?_ ?_;apply zR 10 (mU [(66,.map 5),(67,.ptr 6 0),(68,.str (fE V i k j).name),(69,.bool true),(72,.tup []),(73,.tup []),(74,.tup []),(75,.tup []),(78,.tup []),(79,.tup []),(80,.tup []),(81,.bool true)]) id;refine ga kq kq ?_;refine aK 3 kq kq ?_;apply ac;refine eS dq ?_;apply ac;apply ac;refine eS dq ?_;apply ac;refine ao ?_;apply ab;apply zZ Ma id;apply qo;refine qy (az (a:=((k:Nat):Int)) (b:=1) kq ar ar) ?_ ?_ ?_;apply qr 1;apply qe;refine ab ⟨(k+1,C),?_,?_,⟨⟨(hT GV kq),kq,kq,kq,kq,kq,kq,kq,kq,trivial⟩,aA,by simp,(Eq.trans (b:=(MW D J X V i k C)) kq ML),mS⟩⟩
 . try dsimp only
   omega
 rotate_left
 iterate 8 kernel_rfl
 refine zm [69,70,71] (Bool.eq_false_iff.2 hb9) ?_ ?_;apply qr 3;refine qy (kV (a2:=0) (b2:=0) (ok:=false) (o:=2) (ek:=aa.str) (ev:=aa.bool) (l:=C) (k:=((fE V i k j).name)) eN kq fd ty9 kq ty4 kq false kq) ?_ ?_ ?_;apply qr 2;by_cases hb10:(aV C ((nl V i k j).name))=true;refine zm [75,76,77] (hb10) ?_ ?_;apply zR 4 (mU [(66,.map 5),(67,.ptr 6 0),(68,.str (fE V i k j).name),(69,.bool false),(72,.map 2),(73,.ptr 6 0),(74,.str (fE V i k j).name),(75,.bool true),(78,.tup []),(79,.tup []),(80,.tup []),(81,.bool true)]) id;refine ga kq kq ?_;refine aK 3 kq kq ?_;apply ac;refine eS dq ?_;apply ac;apply ac;refine eS dq ?_;apply ac;refine ao ?_;apply ab;apply zZ Ma id;apply qo;refine qy (az (a:=((k:Nat):Int)) (b:=1) kq ar ar) ?_ ?_ ?_;apply qr 1;apply qe;refine ab ⟨(k+1,C),?_,?_,⟨⟨(hT GV kq),kq,kq,kq,kq,kq,kq,kq,kq,trivial⟩,aA,by simp,(Eq.trans (b:=(MW D J X V i k C)) kq ML),mS⟩⟩
 . try dsimp only
   omega
 rotate_left
 iterate 8 kernel_rfl
 refine zm [75,76,77] (Bool.eq_false_iff.2 hb10) ?_ ?_;apply qr 1;refine qP ((hf.d i oq k oq aq).hc j oq) bk bk Tu kq ?_;apply zR 2 (mU [(66,.map 5),(67,.ptr 6 0),(68,.str (fE V i k j).name),(69,.bool false),(72,.map 2),(73,.ptr 6 0),(74,.str (fE V i k j).name),(75,.bool false),(78,.agg (Lb V i k j)),(79,.bool (X (fE V i k j))),(80,.bool (!(X (fE V i k j)))),(81,.bool (!(X (fE V i k j))))]) id;by_cases hb11:(X (nl V i k j))=true;refine qf (x:=(!(X (fE V i k j)))) (congrArg not (hb11)) ?_ ?_;apply qK;apply zZ (mT [] [81]) id;apply qo;apply qr 3;refine qY (c5 (o:=5) (ek:=aa.str) (ev:=aa.bool) (l:=(sG V i k j)) (k:=((fE V i k j).name)) (x:=true) eN kq fd ty9 rfl kq kq) ?_ ?_ ?_;apply qe;refine ag ?_;apply ab;refine zZ (fun _=>[(3,.own 0 0 (pD D J X V i k).out.length),(4,.map 1),(5,.map 2),(9,.ptr 4 0),(10,.map 5),(16,.imm (V.map Md.v)),(17,nI V.length),(18,nI i),(23,.imm (lc V i)),(24,nI ((eW V i).decls.length)),(25,nI k),(33,.map 1),(34,.ptr 4 1),(35,.str (bM V i k).name),(36,.bool (zF D J X V i k)),(46,.ptr 4 2),(47,.ptr 4 3),(48,.imm (FR V i k)),(49,nI (G3 V i k)),(50,.bool ((Fy V i k)==0)),(55,.imm (FR V i k)),(56,nI (G3 V i k)),(57,nI j),(66,.map 5),(67,.ptr 6 0),(68,.str (fE V i k j).name),(69,.bool false),(72,.map 2),(73,.ptr 6 0),(74,.str (fE V i k j).name),(75,.bool false),(78,.agg (Lb V i k j)),(79,.bool (X (fE V i k j))),(80,.bool (!(X (fE V i k j))))]) (fun _=>[.arr 2 ((pD D J X V i k).out.map Sm.v) 0,.map (ay aa.str aa.bool (sm1 ((pD D J X V i k).seen++[(bM V i k).name]))),.map (mQ C),.box (IA V i),.box (Dc.cs (bM V i k)),.map (ay aa.str aa.bool (bJ ((fE V i k j).name) true (sG V i k j))),.box (Lb V i k j)]) ?_ ?_;apply qo;refine qy (az (a:=((j:Nat):Int)) (b:=1) kq ar ar) ?_ ?_ ?_;apply qr 1;apply qe;refine ab ⟨j+1,?_,?_,(fg kq (Eq.trans (b:=[.arr 2 ((pD D J X V i k).out.map Sm.v) 0,.map (Jk D J X V i k),.map (mQ C),.box (rq V i),.box (Mm V i k),.map (ay aa.str aa.bool (bJ ((nl V i k j).name) true (sm1 (s6 V i k j))))]) kq (by rw [WR oq aq] <;> (show _=_;kernel_rfl))) aA mS)⟩
 . omega
 . exact ⟨by omega,oke hC hO aq aq aq aq⟩
 iterate 14 kernel_rfl
 refine qt (x:=(!(X (fE V i k j)))) (congrArg not (Bool.eq_false_iff.2 hb11)) ?_ ?_;refine aK 3 kq kq ?_;apply ac;refine eS dq ?_;apply ac;apply ac;refine eS dq ?_;apply ac;refine ao ?_;apply ab;apply zZ Ma id;apply qo;refine qy (az (a:=((k:Nat):Int)) (b:=1) kq ar ar) ?_ ?_ ?_;apply qr 1;apply qe;refine ab ⟨(k+1,C),?_,?_,⟨⟨(hT GV kq),kq,kq,kq,kq,kq,kq,kq,kq,trivial⟩,aA,by simp,(Eq.trans (b:=(MW D J X V i k C)) kq ML),mS⟩⟩
 . try dsimp only
   omega
 rotate_left
 iterate 20 kernel_rfl
 refine zm [64,65] (x:=(!(J (fE V i k j).name))) (congrArg not (Bool.eq_false_iff.2 hb8)) ?_ ?_;apply zR 16 (mU [(66,.tup []),(67,.tup []),(68,.tup []),(69,.tup []),(72,.tup []),(73,.tup []),(74,.tup []),(75,.tup []),(78,.tup []),(79,.tup []),(80,.tup []),(81,.bool true)]) id;refine ga kq kq ?_;refine aK 3 kq kq ?_;apply ac;refine eS dq ?_;apply ac;apply ac;refine eS dq ?_;apply ac;refine ao ?_;apply ab;apply zZ Ma id;apply qo;refine qy (az (a:=((k:Nat):Int)) (b:=1) kq ar ar) ?_ ?_ ?_;apply qr 1;apply qe;refine ab ⟨(k+1,C),?_,?_,⟨⟨(hT GV kq),kq,kq,kq,kq,kq,kq,kq,kq,trivial⟩,aA,by simp,(Eq.trans (b:=(MW D J X V i k C)) kq ML),mS⟩⟩
 . try dsimp only
   omega
 rotate_left
 iterate 22 kernel_rfl
 apply qf (decide_eq_false hb7);refine aK 4 kq kq ?_;apply ac;apply ac;refine ao ?_;apply ab;apply zZ (mT [] [55,56,57,58]) id;apply ai;apply zV 1;refine KM (ek:=aa.str) (ev:=aa.bool) (l:=(sG V i k j)) (m:=5) kq kq kq fd kq ?_;refine zN (mT [(87,.itr 6)] [10]) (mH [] [.iter 5 ((List.range (sG V i k j).length),none)]) ?_ ?_;apply qB 6;refine aT (σ:=(List Nat×Option Nat×List lE)) (fun ⟨lf,la,C2⟩=>[(3,.own 0 0 (pD D J X V i k).out.length),(4,.map 1),(5,.map 2),(9,.ptr 4 0),(16,.imm (V.map Md.v)),(17,.int .i64 ((V.length:Nat):Int)),(18,.int .i64 ((i:Nat):Int)),(23,.imm ((V.getD i Md.zero).decls.map Dc.v)),(24,.int .i64 (((V.getD i Md.zero).decls.length:Nat):Int)),(25,.int .i64 ((k:Nat):Int)),(33,.map 1),(34,.ptr 4 1),(35,.str ((V.getD i Md.zero).decls.getD k Dc.zero).name),(36,.bool (aV (sm1 (pD D J X V i k).seen) (CM V i k))),(46,.ptr 4 2),(47,.ptr 4 3),(48,.imm (RQ V i k)),(49,.int .i64 ((((V.getD i Md.zero).decls.getD k Dc.zero).sum.ctors.length:Nat):Int)),(50,.bool (((((V.getD i Md.zero).decls.getD k Dc.zero).sum.ctors.length:Nat):Int)==0)),(87,.itr 6)]) (fun ⟨lf,la,C2⟩=>[.arr 2 ((pD D J X V i k).out.map Sm.v) 0,.map (Jk D J X V i k),.map (ay aa.str aa.bool C2),.box (rq V i),.box (Mm V i k),.map (ay aa.str aa.bool (sm1 (s6 V i k j))),.iter 5 (lf,la)]) (fun ⟨lf,la,C2⟩=>CtI (pD D J X V i k).ct (s6 V i k j) lf C2) (fun ⟨lf,la,C2⟩=>lf.length) (List.range (sm1 (s6 V i k j)).length,none,C) kq (by rw [DG];exact UF hC) (fg kq kq aA mS) ?_;rintro ⟨lf,la,C2⟩ hI;refine zZ (fun _=>[(3,.own 0 0 (pD D J X V i k).out.length),(4,.map 1),(5,.map 2),(9,.ptr 4 0),(16,.imm (V.map Md.v)),(17,nI V.length),(18,nI i),(23,.imm (lc V i)),(24,nI ((eW V i).decls.length)),(25,nI k),(33,.map 1),(34,.ptr 4 1),(35,.str (bM V i k).name),(36,.bool (zF D J X V i k)),(46,.ptr 4 2),(47,.ptr 4 3),(48,.imm (FR V i k)),(49,nI (G3 V i k)),(50,.bool ((Fy V i k)==0)),(87,.itr 6)]) (fun _=>[.arr 2 ((pD D J X V i k).out.map Sm.v) 0,.map (ay aa.str aa.bool (sm1 ((pD D J X V i k).seen++[(bM V i k).name]))),.map (ay aa.str aa.bool C2),.box (IA V i),.box (Dc.cs (bM V i k)),.map (ay aa.str aa.bool (sG V i k j)),.iter 5 (lf,la)]) ?_ ?_;refine zO ?_ ?_;refine Ko (ek:=aa.str) (ev:=aa.bool) (l:=(sG V i k j)) (o:=6) (m:=5) (lf:=lf) (la:=la) (([]:List UInt8),false) kq kq kq kq kq ?_ ?_;intro hli12;apply zR 1 (mU [(89,.bool false)]) id;apply ai;refine iu kq kq ?_;refine aK 6 kq kq ?_;apply ac;apply ac;refine ao ?_;apply ab;apply zZ (mT [] [87,89]) id;refine zD cxM kq (df ax) ?_;apply qu 6;refine qQ (wR (((V.getD i Md.zero).decls.getD k Dc.zero).sum.ctors) (by have:=(hf.d i oq k oq aq).len;omega)) bk bk Tu kq ?_;apply qu 2;refine qD (aX (o:=0) (len:=((pD D J X V i k).out.length)) (l:=(pD D J X V i k).out) (xs:=[(Sm.mk ((bM V i k).name) ((bM V i k).sum.ctors))]) (enc:=Sm.v) (sz:=2) (fr:=0) (x:=(.full [.agg [.str (bM V i k).name,.imm (((bM V i k).sum.ctors).map Ct.v)]])) kq di e9 di rfl kq rfl (by first|rfl|simp) kq ⟨by decide,(by kernel_rfl)⟩ (fun _=>rfl) (by first|omega|(simp;done)|(simp;omega)) (by first|omega|(simp;done)|(simp;omega))) ?_ ?_ ?_ ?_;apply qu 1;refine bY kq ⟨kq,?_⟩;refine ag ?_;apply ab;refine zZ (fun _=>[(3,.own 0 0 ((pD D J X V i k).out++[(Sm.mk ((bM V i k).name) ((bM V i k).sum.ctors))]).length),(4,.map 1),(5,.map 2),(16,.imm (V.map Md.v)),(17,nI V.length),(18,nI i),(23,.imm (lc V i)),(24,nI ((eW V i).decls.length)),(25,nI k),(33,.map 1),(34,.ptr 4 1),(35,.str (bM V i k).name),(36,.bool (zF D J X V i k)),(46,.ptr 4 2),(47,.ptr 4 3),(48,.imm (FR V i k)),(49,nI (G3 V i k)),(50,.bool ((Fy V i k)==0))]) (fun _=>[.arr 2 (((pD D J X V i k).out++[(Sm.mk ((bM V i k).name) ((bM V i k).sum.ctors))]).map Sm.v) 0,.map (ay aa.str aa.bool (sm1 ((pD D J X V i k).seen++[(bM V i k).name]))),.map (ay aa.str aa.bool C2),.box (IA V i),.box (Dc.cs (bM V i k)),.map (ay aa.str aa.bool (sG V i k j)),.iter 5 (lf,la)]) ?_ ?_;apply qo;refine qy (az (a:=((k:Nat):Int)) (b:=1) kq ar ar) ?_ ?_ ?_;apply qr 1;apply qe;refine ab ⟨(k+1,C2),?_,?_,⟨⟨(hT (by rw [Qy aq aq (J5 (j:=j) oq oq oq aq aq)]) kq),kq,kq,kq,kq,kq,kq,kq,kq,trivial⟩,aA,by simp,(Eq.trans (b:=[.arr 2 (((pD D J X V i k).out++[(Sm.mk (CM V i k) (((V.getD i Md.zero).decls.getD k Dc.zero).sum.ctors))]).map Sm.v) 0,.map (Jk D J X V i k),.map (ay aa.str aa.bool C2),.box (rq V i)]) kq (by (try dsimp only);rw [Qy aq aq (J5 (j:=j) oq oq oq aq aq)] <;> (show _=_;kernel_rfl))),mS⟩⟩
 . try dsimp only
   omega
 rotate_left
 iterate 15 kernel_rfl
 intro i12 hii12 hlti12;refine zR 1 (mU [(89,.bool true)]) (mO [(6,.iter 5 ((lf.filter (fun j=>!(Nat.beq j i12))),(some i12)))]) ?_ ?_;apply ai;refine ga kq kq ?_;apply qK;apply zZ (mT [] [89]) id;apply qB 7;refine zO ?_ ?_;refine Ec (ek:=aa.str) (ev:=aa.bool) (l:=(sG V i k j)) (o:=6) (m:=5) (i:=i12) (lf:=(lf.filter (fun j=>!(Nat.beq j i12)))) (([]:List UInt8),false) kq kq kq kq kq aq ?_;apply zR 2 (mU [(13,.str ((sG V i k j).getD i12 (([]:List UInt8),false)).1)]) id;apply qo;apply qr 2;refine qY (c5 (o:=2) (ek:=aa.str) (ev:=aa.bool) (l:=C2) (k:=(((sG V i k j).getD i12 (([]:List UInt8),false)).1)) (x:=true) eN kq fd ty9 rfl kq kq) ?_ ?_ ?_;apply qe;refine ag ?_;refine ab ⟨((lf.filter (fun j=>!(Nat.beq j i12))),(some i12),(bJ (((sm1 (s6 V i k j)).getD i12 (([]:List UInt8),false)).1) true C2)),?_,?_,(fg kq kq aA mS)⟩
 . try dsimp only
   exact Dg lf _ aq
 . try dsimp only
   exact UH hI aq
 iterate 40 kernel_rfl
 refine zm [44,45] (x:=(!(D (bM V i k).name))) (congrArg not (Bool.eq_false_iff.2 hb5)) ?_ ?_;apply zR 6 (mU [(46,.tup []),(47,.tup []),(48,.tup []),(49,.tup []),(50,.tup []),(51,.bool true)]) id;refine ga kq kq ?_;refine aK 3 kq kq ?_;apply ac;refine ao ?_;apply ab;apply zZ (mT [] [9,51]) id;apply qo;refine qy (az (a:=((k:Nat):Int)) (b:=1) kq ar ar) ?_ ?_ ?_;apply qr 1;apply qe;refine ab ⟨(k+1,C),?_,?_,⟨⟨(hT GV kq),kq,kq,kq,kq,kq,kq,kq,kq,trivial⟩,aA,by simp,(Eq.trans (b:=[.arr 2 ((pD D J X V i k).out.map Sm.v) 0,.map (ay aa.str aa.bool (bJ (CM V i k) true (sm1 (pD D J X V i k).seen))),.map (mQ C),.box (rq V i)]) kq Sn),mS⟩⟩
 . try dsimp only
   omega
 rotate_left
 iterate 24 kernel_rfl
 refine zm [31,32] (x:=(((bM V i k).kind) != 0)) (bne_iff_ne.2 hb3) ?_ ?_;apply zR 5 (mU [(33,.tup []),(34,.tup []),(35,.tup []),(36,.tup []),(37,.bool true)]) id;refine ga kq kq ?_;refine aK 3 kq kq ?_;apply ac;refine ao ?_;apply ab;apply zZ (mT [] [9,37]) id;apply qo;refine qy (az (a:=((k:Nat):Int)) (b:=1) kq ar ar) ?_ ?_ ?_;apply qr 1;apply qe;refine ab ⟨(k+1,C),?_,?_,⟨⟨(hT (by rw [QA aq]) kq),kq,kq,kq,kq,kq,kq,kq,kq,trivial⟩,aA,by simp,(Eq.trans (b:=[.arr 2 ((pD D J X V i k).out.map Sm.v) 0,.map (ay aa.str aa.bool (sm1 (pD D J X V i k).seen)),.map (mQ C),.box (rq V i)]) kq (by (try dsimp only);rw [QA aq] <;> (show _=_;kernel_rfl))),mS⟩⟩
 . try dsimp only
   omega
 rotate_left
 iterate 20 kernel_rfl
 apply qf (decide_eq_false hb2);refine aK 2 kq kq ?_;apply ac;apply ac;refine ao ?_;refine tc ?_;refine ag ?_;apply ab;apply zZ (mT [] [23,24,25,26]) id;apply qo;refine qy (az (a:=((i:Nat):Int)) (b:=1) kq ar ar) ?_ ?_ ?_;apply qr 1;apply qe;refine ab ⟨(i+1,C),?_,?_,⟨⟨(hT (by rw [<- BS (by omega:k=(V.getD i Md.zero).decls.length)]) kq),kq,kq,kq,kq,kq,trivial⟩,aA,by simp,(Eq.trans (b:=[.arr 2 ((pD D J X V i k).out.map Sm.v) 0,.map (ay aa.str aa.bool (sm1 (pD D J X V i k).seen)),.map (mQ C)]) kq (by (try dsimp only);rw [<- BS (by omega:k=(V.getD i Md.zero).decls.length)] <;> (show _=_;kernel_rfl))),mS⟩⟩
 . try dsimp only
   omega
 . try dsimp only
   exact ⟨by omega,by rw [<- BS (by omega:k=(V.getD i Md.zero).decls.length)];assumption⟩
 iterate 28 kernel_rfl
 apply qf (decide_eq_false hb1);refine aK 0 kq kq ?_;apply ac;apply ac;refine ao ?_;apply ab;refine zZ (fun _=>[(3,.own 0 0 (pI D J X V i).out.length)]) (fun _=>(PT D J X V i C)) ?_ ?_;apply zV 1;refine lH (args:=[.own 0 0 (pI D J X V i).out.length,.fn (.func 73) [] []]) (v:=.tup []) (h':=[.arr 2 ((jK (pI D J X V i).out.length (pI D J X V i).out).map Sm.v) 0,.map (ay aa.str aa.bool (sm1 (pI D J X V i).seen)),.map (mQ C)]) (PT D J X V i C) kq kq kq kq kq (iK [0] (HM (pI D J X V i).out (by rw [show i=V.length by omega];exact hzA)) rfl dq (by simp [aC,aa.bel,Ty.v,Ex.v,Ct.v,Co.v,Rf.v,Sm.v,Tb.v_cs,Sc.v,Md.v,Pb.v,Ls.v,-List.map_take,-List.map_drop,-List.map_append]) (by simp [am.belO,aC,aa.bel,Ty.v,Ex.v,Ct.v,Co.v,Rf.v,Sm.v,Tb.v_cs,Sc.v,Md.v,Pb.v,Ls.v,-List.map_take,-List.map_drop,-List.map_append]) Gi rfl Gi rfl Gi) ?_;refine zN id (mO [(0,.arr 2 ((jK (pI D J X V i).out.length (pI D J X V i).out).map Sm.v) 0)]) ?_ ?_;refine zW 2 (fun _=>[(2,.own 0 0 (pI D J X V i).out.length)]) (fun _=>[.arr 2 ((jK (pI D J X V i).out.length (pI D J X V i).out).map Sm.v) 0,.map (ay aa.str aa.bool (sm1 (pI D J X V i).seen)),.map (mQ C)]) ?_ ?_;refine aJ kq ?_;refine cd (l:=[.own 0 0 (pI D J X V i).out.length]) (.inr rfl) kq ?_
 . have e_:i=V.length:=by omega
   subst e_;simp [aZ,aa.frz,aN,en,kp,Ty.v,Ex.v,Ct.v,Co.v,Rf.v,Sm.v,Tb.v_cs,Sc.v,Md.v,Pb.v,Ls.v]
 iterate 21 kernel_rfl
 all_goals
  try dsimp only
  refine ⟨by omega,?_⟩
  first|(rw [QA aq];exact hC)|(rw [P1 aq];exact hC)|(rw [M2 aq aq (by first|exact DF (Bool.eq_false_iff.2 aq)|exact D8 oq|exact oka (j:=j) oq aq|exact okb (j:=j) oq aq|exact okc (j:=j) oq aq aq|exact okd (j:=j) oq aq)];exact hC)|(rw [Qy aq aq (J5 (j:=j) oq oq oq aq aq)];exact SB hI aq oq)
abbrev msA (l m:List Int) (b:Bool):List Md:=lN (dy (du l m b)) l
abbrev smS (l m:List Int) (b:Bool):List Sm:=en fx ij ctB (msA l m b)
theorem Bb {s:Sc} {d:Dc} (h:d∈dy s):(∃ x∈s.sums,d=dcS x)\/∃ t∈s.tabs,d=dcT t:=by
 unfold dy at h;rcases List.mem_append.1 h with h|h <;> obtain ⟨x,hx,rfl⟩:=List.mem_map.1 h
 . exact .inl ⟨x,hx,rfl⟩
 . exact .inr ⟨x,hx,rfl⟩
theorem ku {s:Sc} (h:Gd 4 s):(dy s).length<=6:=by
 have h1:=h.l.2;have h2:=h.m.2;unfold dy;simp only [List.length_append,List.length_map];omega
theorem Di (ds:List Dc) (l:List Int):∀ i,(mdS ds l i).1.length+(mdS ds l i).2.length<=2 * i
 | 0=>Nat.le_refl _
 | i+1=>by
  have h:=Di ds l i;rw [mdS];split <;> split <;> simp <;> omega
section
variable {l m:List Int} {b:Bool}
theorem LN (i:Nat) (hi:i<(msA l m b).length) (k:Nat) (hk:k<((msA l m b).getD i Md.zero).decls.length):∃ d j,d∈dy (du l m b)/\j<6/\((msA l m b).getD i Md.zero).decls.getD k Dc.zero=mdX d j:=by
 have hg:=nT l m b;have hm:=aH ((msA l m b).getD i Md.zero).decls Dc.zero k hk
 have hor:((msA l m b).getD i Md.zero).decls.getD k Dc.zero∈(mdS (dy (du l m b)) l (dy (du l m b)).length).1\/((msA l m b).getD i Md.zero).decls.getD k Dc.zero∈(mdS (dy (du l m b)) l (dy (du l m b)).length).2:=by
  match i,hi with
  | 0,_=>exact .inl hm
  | 1,_=>exact .inr hm
  | i+2,h=>exact absurd h (by simp [msA,lN])
 obtain ⟨j,h1,h2⟩:=ET _ _ _ _ hor;have:=ku hg;exact ⟨_,j,aH _ _ _ h1,by omega,h2⟩
theorem oz {P:Dc->Prop} (hs:∀ x,GdM x->∀ j:Nat,j<6->P (mdX (dcS x) j)) (ht:∀ t,GdT 4 t->∀ j:Nat,j<6->P (mdX (dcT t) j)) (i:Nat) (hi:i<(msA l m b).length) (k:Nat) (hk:k<((msA l m b).getD i Md.zero).decls.length):P (((msA l m b).getD i Md.zero).decls.getD k Dc.zero):=by
 obtain ⟨d,j,h1,h2,h3⟩:=LN i hi k hk;have hg:=nT l m b;rw [h3];rcases Bb h1 with ⟨x,hx,rfl⟩|⟨t,hx,rfl⟩
 . exact hs x (hg.ss x hx) j h2
 . exact ht t (hg.tt t hx) j h2
theorem OT (i:Nat):((msA l m b).getD i Md.zero).decls.length<=40:=by
 have h:=xu (dy (du l m b)) l (dy (du l m b)).length;have h6:=ku (nT l m b)
 match i with
 | 0=>show (mdS (dy (du l m b)) l (dy (du l m b)).length).1.length<=40;omega
 | 1=>show (mdS (dy (du l m b)) l (dy (du l m b)).length).2.length<=40;omega
 | i+2=>show (0:Nat)<=40;decide
theorem gU {n:Nat} (h:n<=100000):n<100000000:=by omega
theorem pd:o9 fx ij ctB (msA l m b):=by
 refine ⟨Nat.le_refl _,OT,?_,fun i hi k hk=>?_⟩
 . have h:=Di (dy (du l m b)) l (dy (du l m b)).length;have h6:=ku (nT l m b);show (mdS (dy (du l m b)) l (dy (du l m b)).length).1.length+(mdS (dy (du l m b)) l (dy (du l m b)).length).2.length<=12;omega
 refine oz (P:=fun d=>d.kind=0->Jw fx ij ctB d) (fun x hx j _ _=>?_) (fun t _ j _ h=>by cases h) i hi k hk;have hq:∀ q,q<x.ctors.length->GdA (x.ctors.getD q Ct.zero):=fun q h=>hx.c _ (aH _ _ _ h)
 refine ⟨Nat.le_trans hx.l dq,(wx hx.n).1,(wx hx.n).2,fun q h=>(vj (hq q h).n).1,fun q h=>pM _ (hq q h).q (gU (hq q h).z),fun q h=>?_⟩;have h1:=kK _ (pL _) (vj (hq q h).n).2 (hq q h).q (gU (hq q h).z);have h2:=BM _ (hq q h).n;rw [GB,h2] at h1;exact h1
theorem LJ:SmQ (smS l m b):=by
 have hl:=sJ (pd (l:=l) (m:=m) (b:=b));refine ⟨Nat.lt_of_le_of_lt hl dq,fun s hs=>?_⟩;obtain ⟨i,hi,k,hk,h0,rfl⟩:=sZ hs;refine oz (P:=fun d=>d.kind=0->(rt d).ctors.length<1000000/\∀ c∈(rt d).ctors,Vq c.arg) (fun x hx j _ _=>?_) (fun t _ j _ h=>by cases h) i hi k hk h0;exact ⟨Nat.lt_of_le_of_lt hx.l dq,fun c hc=>tY (hx.c c hc).q⟩
abbrev xT (l m:List Int) (b:Bool):Ty->Bool:=gR (smS l m b)
theorem Jj:Tb.zero.ok:=⟨by decide,by decide,by decide,fun c hc=>by cases hc⟩
theorem P8 {x:Sm} (h:GdM x) {j:Nat} (hj:j<6):(mdX (dcS x) j).ok:=⟨Nat.lt_of_le_of_lt (xt _ (y8 _ h.n)) dq,⟨by show -1000000000000<=10 * ((j:Nat):Int)+6;omega,by show 10 * ((j:Nat):Int)+6<=1000000000000;omega⟩,Jj⟩
theorem Rn {t:Tb} (h:GdT 4 t) {j:Nat} (hj:j<6):(mdX (dcT t) j).ok:=⟨Nat.lt_of_le_of_lt (xt _ h.n) dq,⟨by show -1000000000000<=10 * ((j:Nat):Int)+6;omega,by show 10 * ((j:Nat):Int)+6<=1000000000000;omega⟩,⟨Nat.le_trans h.l.2 dq,Nat.le_trans h.k dq,Nat.le_trans h.r dq,fun c hc=>gU (h.c c hc).z⟩⟩
theorem Ig:rW (smS l m b) bG (xT l m b) fh (msA l m b):=by
 refine ⟨Nat.le_refl _,OT,fun i hi k hk=>?_⟩;refine oz (P:=Ql (smS l m b) bG (xT l m b) fh) (fun x hx j hj=>?_) (fun t ht j hj=>?_) i hi k hk
 . have hz:=sP (n:=Ex.zero) (.head _);exact ⟨P8 hx hj,fun q h=>absurd h (Nat.not_lt_zero q),fun q h=>absurd h (Nat.not_lt_zero q),(m7 (y8 _ hx.n)).1,hz.1,hz.2.2.1⟩
 . have hz:=sP ht.x;have hq:∀ q,q<t.cols.length->GdC (t.cols.getD q Co.zero):=fun q h=>ht.c _ (aH _ _ _ h)
   exact ⟨Rn ht hj,fun q h=>(m7 (hq q h).n).1,fun q h=>s8 _ _ (tY (hq q h).q) LJ,(m7 ht.n).1,hz.1,hz.2.2.1⟩
abbrev scA (l m:List Int) (b:Bool):Sc:=gT bG (xT l m b) fh (msA l m b) (smS l m b)
abbrev psA (l m:List Int) (b:Bool):List Pb:=(stI bG (xT l m b) fh (msA l m b) (msA l m b).length).bp.2
theorem Nw {P:Tb->Prop} (hp:∀ t,GdT 4 t->P (t.named t.name)) (h0:∀ x,GdM x->P (Tb.zero.named x.name)):∀ t∈(scA l m b).tabs,P t:=fun t ht =>
 DA (O:=bG) (U:=xT l m b) (Y:=fh) (V:=msA l m b) (p:=P) (fun i hi k hk=>oz (P:=fun d=>P (d.tab.named d.name)) (fun x hx j _=>h0 x hx) (fun t ht j _=>hp t ht) i hi k hk) _ (Nat.le_refl _) t ((mz _ _ 9).subset (oY.mem_iff.1 ht))
theorem Je:ae cx 7 [.imm ((msA l m b).map Md.v)] (.tup [(scA l m b).v,.imm ((psA l m b).map Pb.v)]) :=
 ww bG (xT l m b) fh (smS l m b) (msA l m b) Ig (vH fx ij ctB (msA l m b) pd)
end
end Go.Proofs.YtcpklndelobigaaGreatDoor
