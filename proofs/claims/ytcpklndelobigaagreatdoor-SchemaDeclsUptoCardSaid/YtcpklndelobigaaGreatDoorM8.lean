/- A part of the proof: plain lemmas and walks. No condition. -/
import Derived.Test.YtcpklndelobigaaGreatDoorM1
import Derived.Test.YtcpklndelobigaaGreatDoorSX
set_option linter.all false
namespace Go.Proofs.YtcpklndelobigaaGreatDoor
open Go.Proofs.YtcpklndelobigaaGreatDoor.Abs
set_option maxRecDepth 20000
set_option maxHeartbeats 4000000
theorem KR (a b:Tb) :ae cx 34 [Tb.v a,Tb.v b] (.int .i64 (i6 a.name b.name)):=by
 refine fI 10 0 [(ResultVar.tmp 4)] Tryz.func34 kq ?_;refine zZ (fun _=>[(0,Tb.v a),(1,Tb.v b)]) (fun _=>[]) ?_ ?_;refine zW 3 (fun _=>[(2,.ptr 0 0),(3,.ptr 1 0)]) (fun _=>[.box (Tb.cs a),.box (Tb.cs b)]) ?_ ?_;apply zV 4;refine qc [.str a.name,.str b.name] (kG a.name b.name) ?_ ?_;refine qX 1 ?_ ?_;refine dm (n:=(i6 a.name b.name)) (.inr rfl) kq ?_
 . rfl
 iterate 5 kernel_rfl
theorem n0 (a b:List UInt8):i6 a b<0↔aS a b=true:=by
 unfold i6;cases aS a b <;> cases aS b a <;> decide
theorem jm1 {j:Nat}:(((j:Nat):Int) - 1).toNat=j - 1:=by omega
theorem Qo (a:List Tb) (j:Nat):((a.set (0+j) (a.getD (0+(((j:Nat):Int) - 1).toNat) Tb.zero)).set (0+(((j:Nat):Int) - 1).toNat) (a.getD (0+j) Tb.zero))=sO a j:=by
 rw [jm1,Nat.zero_add,Nat.zero_add];rfl
theorem Gt {a b:List Tb} {i j:Nat} (h:iN j a=iN i b) (hj:¬ ((j:Nat):Int) > 0):a=iN i b:=by
 have:j=0:=by omega
 subst this;exact h
theorem Gk {a b:List Tb} {i j:Nat} (h:iN j a=iN i b) (hs:¬ (i6 (a.getD (0+j) Tb.zero).name (a.getD (0+(((j:Nat):Int) - 1).toNat) Tb.zero).name)<0):a=iN i b:=by
 cases j with
 | zero=>exact h
 | succ j =>
  rw [n0,jm1,Nat.zero_add,Nat.zero_add,Nat.add_sub_cancel] at hs;rw [iN,if_neg hs] at h;exact h
theorem Q8 {a b:List Tb} {i j:Nat} (h:iN j a=iN i b) (hj:((j:Nat):Int) > 0) (hs:(i6 (a.getD (0+j) Tb.zero).name (a.getD (0+(((j:Nat):Int) - 1).toNat) Tb.zero).name)<0):iN (j - 1) (sO a j)=iN i b:=by
 cases j with
 | zero=>omega
 | succ j =>
  rw [n0,jm1,Nat.zero_add,Nat.zero_add,Nat.add_sub_cancel] at hs;rw [iN,if_pos hs] at h;exact h
theorem Kl {l:List Tb} {i:Nat} (h1:1<=i) (h2:i<=l.length\/i=1) (h3:¬ ((i:Nat):Int)<((l.length:Nat):Int)):jL i l=jL l.length l:=by
 rcases h2 with h|h
 . have:i=l.length:=by omega
   rw [this]
 . subst h;cases e:l.length with
   | zero=>rfl
   | succ n => have:n=0:=by omega
               rw [this]
def Rg (n:Nat):Int:=if n=0 then 0 else if n<2 then 1 else if n<4 then 2 else if n<8 then 3 else 4
theorem wE (n:Nat) (hn:n<=12):ae cx 85 [.int .u64 ((n:Nat):Int)] (.int .i64 (Rg n)):=by
 match n,hn with
 | 0,_=>exact bg (p:=xp) cxM bi bR 60 false 85 [.int .u64 0] [] (.int .i64 0,[]) kq
 | 1,_=>exact bg (p:=xp) cxM bi bR 60 false 85 [.int .u64 1] [] (.int .i64 1,[]) kq
 | 2,_=>exact bg (p:=xp) cxM bi bR 60 false 85 [.int .u64 2] [] (.int .i64 2,[]) kq
 | 3,_=>exact bg (p:=xp) cxM bi bR 60 false 85 [.int .u64 3] [] (.int .i64 2,[]) kq
 | 4,_=>exact bg (p:=xp) cxM bi bR 60 false 85 [.int .u64 4] [] (.int .i64 3,[]) kq
 | 5,_=>exact bg (p:=xp) cxM bi bR 60 false 85 [.int .u64 5] [] (.int .i64 3,[]) kq
 | 6,_=>exact bg (p:=xp) cxM bi bR 60 false 85 [.int .u64 6] [] (.int .i64 3,[]) kq
 | 7,_=>exact bg (p:=xp) cxM bi bR 60 false 85 [.int .u64 7] [] (.int .i64 3,[]) kq
 | 8,_=>exact bg (p:=xp) cxM bi bR 60 false 85 [.int .u64 8] [] (.int .i64 4,[]) kq
 | 9,_=>exact bg (p:=xp) cxM bi bR 60 false 85 [.int .u64 9] [] (.int .i64 4,[]) kq
 | 10,_=>exact bg (p:=xp) cxM bi bR 60 false 85 [.int .u64 10] [] (.int .i64 4,[]) kq
 | 11,_=>exact bg (p:=xp) cxM bi bR 60 false 85 [.int .u64 11] [] (.int .i64 4,[]) kq
 | 12,_=>exact bg (p:=xp) cxM bi bR 60 false 85 [.int .u64 12] [] (.int .i64 4,[]) kq
 | n+13,h=>exact absurd h oq
abbrev nM (a:List Tb)(j:Nat):=(a.getD (0+((((j:Nat):Int) - 1)).toNat) Tb.zero)
abbrev JH (a:List Tb)(j:Nat):=(i6 (jr a j).name (nM a j).name)
abbrev yF (l:List Tb):Nat×aa:=(0,.own 0 0 l.length)
abbrev zy (j:Nat):aa:=(.bool (decide (((j:Nat):Int) > 0)))
abbrev J2 (j:Nat):=(((j:Nat):Int) - 1)
theorem gP {p:Prop} (h:p:=by simp [am.belO,aC,aa.bel,Ty.v,Ex.v,Ct.v,Co.v,Rf.v,Sm.v,Tb.v_cs,Sc.v,Md.v,Pb.v,Ls.v,-List.map_take,-List.map_drop,-List.map_append,-List.map_set]):p:=h
theorem rN {p:Prop} (h:p:=by first|(simp;done)|(simp [hal,hil];done)|(simp [hal];done)):p:=h
theorem TD {p:Prop} (h:p:=by (first|rw [Gt hJ.1 aq]|rw [Gk hJ.1 aq]);show _=_;kernel_rfl):p:=h
theorem MF {p:Prop} (h:p:=by rw [cL];exact kq):p:=h
abbrev Fj (l:List Tb):List am:=[.arr 13 ((jL l.length l).map Tb.v) 0]
abbrev uy (l:List Tb):List am:=[.arr 13 (l.map Tb.v) 0]
abbrev M5 (j:Nat):=0+((((j:Nat):Int) - 1)).toNat
abbrev uD (j:Nat):=0+((J2 j)).toNat
theorem Ml (l:List Tb) (hl:l.length<1000):av cx 154 [.own 0 0 l.length,.int .i64 0,.int .i64 ((l.length:Nat):Int),.fn (.func 34) [] []] (uy l) (fun v h=>v=(.tup [])/\h=(Fj l)):=by
 refine fI 53 1 [] Tryz.func154 kq ?_;refine zZ (fun _=>[(yF l),(1,.int .i64 0),(2,nI l.length),(3,.fn (.func 34) [] [])]) (fun _=>(uy l)) ?_ ?_;apply zW 3 (mU [(8,.int .i64 1)]) id;apply qB 0;refine aT (σ:=Nat) (fun i=>[(yF l),(1,.int .i64 0),(2,.int .i64 ((l.length:Nat):Int)),(3,.fn (.func 34) [] []),(8,nI i)]) (fun i=>[.arr 13 ((jL i l).map Tb.v) 0]) (fun i=>1<=i/\(i<=l.length\/i=1)) (fun i=>l.length - i) 1 kq oq (fg kq (Eq.trans (b:=(uy l)) kq (by show _=_;kernel_rfl)) aA gP) ?_;rintro i ⟨hi1,hi2⟩;have hil:=j6 l i;apply ai;apply zW 3 (mU [(14,.bool (decide (((i:Nat):Int)<((l.length:Nat):Int))))]) id;by_cases hb1:((i:Nat):Int)<((l.length:Nat):Int);apply qt (decide_eq_true hb1);apply qK;apply zZ (mT [] [14]) id;apply ai;apply qB 1;apply zW 2 (mU [(9,nI i)]) id;apply qB 2;refine aT (σ:=(List Tb×Nat)) (fun ⟨a,j⟩=>[(yF l),(1,.int .i64 0),(2,.int .i64 ((l.length:Nat):Int)),(3,.fn (.func 34) [] []),(8,nI i),(9,nI j)]) (fun ⟨a,j⟩=>[.arr 13 (a.map Tb.v) 0]) (fun ⟨a,j⟩=>iN j a=iN i (jL i l)/\a.length=l.length/\j<=i) (fun ⟨a,j⟩=>j) (jL i l,i) kq (by exact ⟨rfl,hil,Nat.le_refl _⟩) (fg kq kq aA gP) ?_;rintro ⟨a,j⟩ hJ;have hal:=hJ.2.1;have hji:=hJ.2.2;refine zZ (fun _=>[(yF l),(1,.int .i64 0),(2,nI l.length),(3,.fn (.func 34) [] []),(8,nI i),(9,nI j)]) (fun _=>[.arr 13 (a.map Tb.v) 0]) ?_ ?_;apply ai;apply ai;refine zD cxM kq ax ?_;apply qu 4;by_cases hb2:((j:Nat):Int) > 0;refine fq 20 (zy j) (.bool true) (fu ax) kq (congrArg aa.bool (decide_eq_true hb2)) ?_;refine fq 21 (zy j) (.bool true) (fu ax) kq (congrArg aa.bool (decide_eq_true hb2)) ?_;apply qu 3;refine qd (bD (k:=.i64) (i:=((j:Nat):Int)) (o:=0) (off:=0) (len:=l.length) (sz:=13) (fr:=0) (es:=(a.map Tb.v)) kq cD d3 kq rfl rN ar ar) ?_ ?_ ?_ ?_;refine qd (c7 (t:=52) (o:=0) (idx:=(0+j)) (off:=0) (k:=((a.map Tb.v).length)) (sz:=13) (fr:=0) (es:=(a.map Tb.v)) (x:=Tb.v (jr a j)) (v:=.agg (Tb.cs (jr a j))) kq kq zq (c6 _ _ _ _ ar) MF) ?_ ?_ ?_ ?_;apply qu 2;refine qd (eZ (a:=((j:Nat):Int)) (b:=1) kq ar ar) ?_ ?_ ?_ ?_;refine qd (bD (k:=.i64) (i:=(((j:Nat):Int) - 1)) (o:=0) (off:=0) (len:=l.length) (sz:=13) (fr:=0) (es:=(a.map Tb.v)) kq cD d3 kq rfl rN ar ar) ?_ ?_ ?_ ?_;refine qd (c7 (t:=52) (o:=0) (idx:=(uD j)) (off:=0) (k:=((a.map Tb.v).length)) (sz:=13) (fr:=0) (es:=(a.map Tb.v)) (x:=Tb.v (nM a j)) (v:=.agg (Tb.cs (nM a j))) kq kq zq (c6 _ _ _ _ ar) MF) ?_ ?_ ?_ ?_;refine qQ (KR (jr a j) (nM a j)) bk bk bk kq ?_;apply qu 2;refine bY kq ⟨kq,?_⟩;refine zE (mU [(22,.fn (.func 34) [] []),(23,.own 0 0 l.length),(24,nI j),(25,.pown 0 (0+j) 0 (a.map Tb.v).length),(26,.agg (Tb.cs (jr a j))),(27,.own 0 0 l.length),(28,nI j),(29,.int .i64 (J2 j)),(30,.pown 0 (uD j) 0 (a.map Tb.v).length),(31,.agg (Tb.cs (nM a j))),(32,.int .i64 (JH a j)),(33,.bool (decide ((JH a j)<0))),(34,.bool (decide ((JH a j)<0)))]) id ?_ ?_;by_cases hb3:(i6 (a.getD (0+j) Tb.zero).name (a.getD (M5 j) Tb.zero).name)<0;apply qt (decide_eq_true hb3);apply qK;apply zZ (mT [] [34]) id;apply ai;apply qB 3;refine zD cxM kq (df ax) ?_;apply qu 4;refine qd (eZ (a:=((j:Nat):Int)) (b:=1) kq ar ar) ?_ ?_ ?_ ?_;apply qu 2;refine qd (eZ (a:=((j:Nat):Int)) (b:=1) kq ar ar) ?_ ?_ ?_ ?_;refine qd (bD (k:=.i64) (i:=(((j:Nat):Int) - 1)) (o:=0) (off:=0) (len:=l.length) (sz:=13) (fr:=0) (es:=(a.map Tb.v)) kq cD d3 kq rfl rN ar ar) ?_ ?_ ?_ ?_;refine qd (c7 (t:=52) (o:=0) (idx:=(uD j)) (off:=0) (k:=((a.map Tb.v).length)) (sz:=13) (fr:=0) (es:=(a.map Tb.v)) (x:=Tb.v (nM a j)) (v:=.agg (Tb.cs (nM a j))) kq kq zq (c6 _ _ _ _ ar) MF) ?_ ?_ ?_ ?_;apply qu 2;refine qd (bD (k:=.i64) (i:=((j:Nat):Int)) (o:=0) (off:=0) (len:=l.length) (sz:=13) (fr:=0) (es:=(a.map Tb.v)) kq cD d3 kq rfl rN ar ar) ?_ ?_ ?_ ?_;refine qd (c7 (t:=52) (o:=0) (idx:=(0+j)) (off:=0) (k:=((a.map Tb.v).length)) (sz:=13) (fr:=0) (es:=(a.map Tb.v)) (x:=Tb.v (jr a j)) (v:=.agg (Tb.cs (jr a j))) kq kq zq (c6 _ _ _ _ ar) MF) ?_ ?_ ?_ ?_;refine qd (bD (k:=.i64) (i:=((j:Nat):Int)) (o:=0) (off:=0) (len:=l.length) (sz:=13) (fr:=0) (es:=(a.map Tb.v)) kq cD d3 kq rfl rN ar ar) ?_ ?_ ?_ ?_;refine qD (ix (o:=0) (k:=((a.map Tb.v).length)) (x:=.agg (Tb.cs (nM a j))) (enc:=Tb.v) (l:=a) (X:=(nM a j)) (d:=Tb.zero) (idx:=(0+j)) (sz:=13) kq (Tb.v_v (nM a j)).symm kq zq ar d3 BJ wQ) ?_ ?_ ?_ ?_;refine qd (bD (k:=.i64) (i:=(((j:Nat):Int) - 1)) (o:=0) (off:=0) (len:=l.length) (sz:=13) (fr:=0) (es:=((a.set (0+j) (a.getD (M5 j) Tb.zero)).map Tb.v)) kq cD d3 kq rfl rN ar ar) ?_ ?_ ?_ ?_;refine qD (ix (o:=0) (k:=(((a.set (0+j) (nM a j)).map Tb.v).length)) (x:=.agg (Tb.cs (jr a j))) (enc:=Tb.v) (l:=(a.set (0+j) (nM a j))) (X:=(jr a j)) (d:=Tb.zero) (idx:=(uD j)) (sz:=13) kq (Tb.v_v (jr a j)).symm kq zq ar d3 BJ wQ) ?_ ?_ ?_ ?_;refine bY kq ⟨kq,?_⟩;refine ag ?_;apply ab;refine zZ (fun _=>[(yF l),(1,.int .i64 0),(2,nI l.length),(3,.fn (.func 34) [] []),(8,nI i),(9,nI j),(22,.fn (.func 34) [] []),(23,.own 0 0 l.length),(24,nI j),(25,.pown 0 (0+j) 0 (a.map Tb.v).length),(26,.agg (Tb.cs (jr a j))),(27,.own 0 0 l.length),(28,nI j),(29,.int .i64 (J2 j)),(30,.pown 0 (uD j) 0 (a.map Tb.v).length),(31,.agg (Tb.cs (nM a j))),(32,.int .i64 (JH a j)),(33,.bool (decide ((JH a j)<0)))]) (fun _=>[.arr 13 (((a.set (0+j) (nM a j)).set (uD j) (jr a j)).map Tb.v) 0]) ?_ ?_;apply qo;apply qr 1;refine qy (eZ (a:=((j:Nat):Int)) (b:=1) kq ar ar) ?_ ?_ ?_;apply qr 1;apply qe;refine ab ⟨(sO a j,j - 1),?_,?_,⟨⟨kq,kq,kq,kq,kq,(Eq.trans (b:=.int .i64 (((j:Nat):Int) - 1)) kq (by exact congrArg (aa.int .i64) oq)),trivial⟩,aA,by simp,(Eq.trans (b:=[.arr 13 (((a.set (0+j) (a.getD (M5 j) Tb.zero)).set (M5 j) (a.getD (0+j) Tb.zero)).map Tb.v) 0]) kq (by (try dsimp only);rw [Qo])),gP⟩⟩
 . try dsimp only
   omega
 . try dsimp only
   exact ⟨Q8 hJ.1 aq aq,by rw [oM];omega,by omega⟩
 iterate 46 kernel_rfl
 apply qf (decide_eq_false hb3);refine aK 2 kq kq ?_;apply ac;apply ac;refine ao ?_;refine ag ?_;apply ab;apply zZ (mT [] [9,34]) id;apply qo;apply qr 1;refine qy (az (a:=((i:Nat):Int)) (b:=1) kq ar ar) ?_ ?_ ?_;apply qr 1;apply qe;refine ab ⟨i+1,?_,?_,(fg kq (Eq.trans (b:=[.arr 13 (a.map Tb.v) 0]) kq TD) aA gP)⟩
 . omega
 . omega
 iterate 27 kernel_rfl
 refine fq 20 (zy j) (.bool false) (fu ax) kq (congrArg aa.bool (decide_eq_false hb2)) ?_;refine fq 21 (zy j) (.bool false) (fu ax) kq (congrArg aa.bool (decide_eq_false hb2)) ?_;apply qu 13;refine bY kq ⟨kq,?_⟩;refine zE (mU [(22,.tup []),(23,.tup []),(24,.tup []),(25,.tup []),(26,.tup []),(27,.tup []),(28,.tup []),(29,.tup []),(30,.tup []),(31,.tup []),(32,.tup []),(33,.tup []),(34,.bool false)]) id ?_ ?_;refine iu kq kq ?_;refine aK 2 kq kq ?_;apply ac;apply ac;refine ao ?_;refine ag ?_;apply ab;apply zZ (mT [] [9,34]) id;apply qo;apply qr 1;refine qy (az (a:=((i:Nat):Int)) (b:=1) kq ar ar) ?_ ?_ ?_;apply qr 1;apply qe;refine ab ⟨i+1,?_,?_,(fg kq (Eq.trans (b:=[.arr 13 (a.map Tb.v) 0]) kq TD) aA gP)⟩
 . omega
 . omega
 iterate 22 kernel_rfl
 apply qf (decide_eq_false hb1);refine aK 0 kq kq ?_;apply ac;apply ac;refine ao ?_;refine aO (l:=[]) (.inl rfl) kq (by rfl) aQ aQ ?_ ?_;refine Eq.trans (b:=[.arr 13 ((jL i l).map Tb.v) 0]) kq ?_
 . rw [Kl hi1 hi2 aq]
 . simp [am.belO,aC,aa.bel,Ty.v,Ex.v,Ct.v,Co.v,Rf.v,Sm.v,Tb.v_cs,Sc.v,Md.v,Pb.v,Ls.v,-List.map_take,-List.map_drop,-List.map_append,-List.map_set]
 iterate 7 kernel_rfl
theorem Nd (l:List Tb) (lim:Int) (hl:l.length<=12):av cx 84 [.own 0 0 l.length,.int .i64 0,.int .i64 ((l.length:Nat):Int),.int .i64 (lim),.fn (.func 34) [] []] (uy l) (fun v h=>v=(.tup [])/\h=(Fj l)):=by
 refine fI 148 1 [] Tryz.func84 kq ?_;refine zZ (fun _=>[(yF l),(1,.int .i64 0),(2,nI l.length),(3,.int .i64 (lim)),(4,.fn (.func 34) [] [])]) (fun _=>(uy l)) ?_ ?_;apply zW 1 (mU [(10,.bool true)]) id;apply zW 1 (mU [(11,.bool true)]) id;apply qB 0;refine SF 1 kq ?_;refine Vs ?_;apply qB 1;apply zV 2;refine qy (eZ (a:=((l.length:Nat):Int)) (b:=0) kq ar ar) ?_ ?_ ?_;refine zR 1 (fun _=>[(yF l),(1,.int .i64 0),(2,nI l.length),(3,.int .i64 (lim)),(4,.fn (.func 34) [] []),(10,.bool true),(11,.bool true),(12,.int .i64 (((l.length:Nat):Int) - 0))]) (fun _=>(uy l)) ?_ ?_;apply ai;apply zW 2 (mU [(25,.bool (decide ((((l.length:Nat):Int) - 0)<=12)))]) id;by_cases hb1:(((l.length:Nat):Int) - 0)<=12;apply qt (decide_eq_true hb1);apply zV 4;refine qA (Ml l oq) gP gP rfl gP gP kq ?_;refine zN (fun _=>[]) (fun _=>(Fj l)) ?_ ?_;refine aJ kq ?_;apply aR;apply iR;apply aR;apply iR;refine aO (l:=[]) (.inr rfl) kq (by rfl) aQ aQ ?_ ?_;refine Eq.trans (b:=(Fj l)) kq ?_
 . rfl
 . simp [am.belO,aC,aa.bel,Ty.v,Ex.v,Ct.v,Co.v,Rf.v,Sm.v,Tb.v_cs,Sc.v,Md.v,Pb.v,Ls.v,-List.map_take,-List.map_drop,-List.map_append,-List.map_set]
 iterate 3 kernel_rfl
 . exfalso;omega
 iterate 13 kernel_rfl
theorem NS (l:List Tb) (hl:l.length<=12):av cx 33 [.own 0 0 l.length,.fn (.func 34) [] []] (uy l) (fun v h=>v=(.tup [])/\h=(Fj l)):=by
 refine fI 14 1 [] Tryz.func33 kq ?_;refine zZ (fun _=>[(yF l),(1,.fn (.func 34) [] [])]) (fun _=>(uy l)) ?_ ?_;apply zV 1;refine qy (cu (o:=0) (off:=0) (len:=l.length) (sz:=13) (es:=(l.map Tb.v)) (fr:=0) kq cD kq zq) ?_ ?_ ?_;refine zR 1 (fun _=>[(yF l),(1,.fn (.func 34) [] []),(4,nI l.length)]) (fun _=>(uy l)) ?_ ?_;apply qo;apply qr 3;refine qy (IT (k:=.i64) (n:=((l.length:Nat):Int)) kq ty3 PD (by simp [IntKind.wrap,IntKind.bits,IntKind.signed];omega)) ?_ ?_ ?_;refine qc [.int .u64 ((l.length:Nat):Int)] (wE l.length ar) ?_ ?_;apply qr 1;refine qA (Nd l (Rg l.length) oq) gP gP rfl gP gP kq ?_;apply qe;refine aO (l:=[]) (.inl rfl) kq (by rfl) aQ aQ ?_ ?_;refine Eq.trans (b:=(Fj l)) kq ?_
 . rfl
 . simp [am.belO,aC,aa.bel,Ty.v,Ex.v,Ct.v,Co.v,Rf.v,Sm.v,Tb.v_cs,Sc.v,Md.v,Pb.v,Ls.v,-List.map_take,-List.map_drop,-List.map_append,-List.map_set]
 iterate 12 kernel_rfl
structure Ql (Z:List Sm) (O:List UInt8->Bool) (U:Ty->Bool) (Y:Ex->Int) (d:Dc):Prop where
 ok:d.ok
 hlow:∀ i,i<d.tab.cols.length->ae cx 70 [.int .i64 2,.str (d.tab.cols.getD i Co.zero).name] (.bool (O (d.tab.cols.getD i Co.zero).name))
 hsto:∀ i,i<d.tab.cols.length->ae cx 136 [.imm (Z.map Sm.v),(d.tab.cols.getD i Co.zero).type.v] (.bool (U (d.tab.cols.getD i Co.zero).type))
 hln:ae cx 70 [.int .i64 2,.str d.name] (.bool (O d.name))
 hchk:ae cx 77 [d.tab.chk.v] (.int .i64 (Y d.tab.chk))
 hst:ae cx 81 [d.tab.chk.v] d.tab.chk.v
structure rW (Z:List Sm) (O:List UInt8->Bool) (U:Ty->Bool) (Y:Ex->Int) (V:List Md):Prop where
 n:V.length<=2
 m:∀ i,(V.getD i Md.zero).decls.length<=40
 d:∀ i,i<V.length->∀ k,k<(V.getD i Md.zero).decls.length->Ql Z O U Y ((V.getD i Md.zero).decls.getD k Dc.zero)
section
variable (O:List UInt8->Bool) (U:Ty->Bool) (Y:Ex->Int) (V:List Md)
def tmI (i:Nat):Tm_:=mF tmf V i []
def tmD (i k:Nat):Tm_:=dF tmf (V.getD i Md.zero).name (V.getD i Md.zero).decls k (tmI V i)
def tmA:Tm_:=tmI V V.length
def stI (i:Nat):SP:=mF (dP O U (fun e=>Y e==0) (fun n=>aL n (tmA V))) V i ⟨[],[],([],[])⟩
def stD (i k:Nat):SP:=dF (dP O U (fun e=>Y e==0) (fun n=>aL n (tmA V))) (V.getD i Md.zero).name (V.getD i Md.zero).decls k (stI O U Y V i)
def srI (i:Nat):SR:=mF (dR O U (fun e=>Y e==0) (fun n=>aL n (tmA V))) V i ⟨[],[],[]⟩
def srD (i k:Nat):SR:=dF (dR O U (fun e=>Y e==0) (fun n=>aL n (tmA V))) (V.getD i Md.zero).name (V.getD i Md.zero).decls k (srI O U Y V i)
end
section
variable {O:List UInt8->Bool} {U:Ty->Bool} {Y:Ex->Int} {V:List Md} {Z:List Sm}
theorem PR (i:Nat):H3 (stI O U Y V i) (srI O U Y V i):=wU (fun doc d s s' h=>AO O U _ _ doc d s s' h) V HT i
theorem Rr (i k:Nat):H3 (stD O U Y V i k) (srD O U Y V i k):=xK (fun doc d s s' h=>AO O U _ _ doc d s s' h) _ _ (PR i) k
abbrev dcl (V:List Md) (i k:Nat):Dc:=(V.getD i Md.zero).decls.getD k Dc.zero
theorem Dx (i k:Nat):tmD V i (k+1)=tmf (V.getD i Md.zero).name (dcl V i k) (tmD V i k):=rfl
theorem uh (i k:Nat):stD O U Y V i (k+1)=dP O U (fun e=>Y e==0) (fun n=>aL n (tmA V)) (V.getD i Md.zero).name (dcl V i k) (stD O U Y V i k):=rfl
abbrev w7 (V:List Md)(i:Nat)(k:Nat):=(V.getD i Md.zero).decls.getD k Dc.zero
theorem Sq {i k:Nat} (h:aL (w7 V i k).name (tmD V i k)=none) (h2:(w7 V i k).kind=1):tmD V i (k+1)=bJ (w7 V i k).name (w7 V i k).tab (tmD V i k):=by
 rw [Dx];unfold tmf;rw [if_pos ⟨h,h2⟩]
theorem Tq {i k:Nat} {x:Tb} (h:aL (w7 V i k).name (tmD V i k)=some x):tmD V i (k+1)=tmD V i k:=by
 rw [Dx];unfold tmf;rw [if_neg (fun q=>by rw [h] at q;exact absurd q.1 zq)]
theorem VF {i k:Nat} (h2:¬ (w7 V i k).kind=1):tmD V i (k+1)=tmD V i k:=by
 rw [Dx];unfold tmf;rw [if_neg (fun q=>h2 q.2)]
theorem LY {i k:Nat} (h:k=(V.getD i Md.zero).decls.length):tmD V i k=tmI V (i+1):=by rw [h];rfl
theorem DS {i k:Nat} (h:k=(V.getD i Md.zero).decls.length):stD O U Y V i k=stI O U Y V (i+1):=by rw [h];rfl
theorem SX {i k:Nat} (h:¬ (dcl V i k).kind=1):stD O U Y V i (k+1)=stD O U Y V i k:=by
 rw [uh];unfold dP;rw [if_neg (fun q=>h q.1)]
theorem SA {i k:Nat} (h:aV (stD O U Y V i k).seen (dcl V i k).name=true):stD O U Y V i (k+1)=stD O U Y V i k:=by
 rw [uh];unfold dP;rw [if_neg (fun q=>by rw [h] at q;exact absurd q.2 zq)]
theorem Sr {i k:Nat} (h:(dcl V i k).kind=1) (h2:¬ aV (stD O U Y V i k).seen (dcl V i k).name=true) (h3:(((bJ (dcl V i k).name true (stD O U Y V i k).seen).length:Nat):Int) > 8) :
 stD O U Y V i (k+1)=⟨bJ (dcl V i k).name true (stD O U Y V i k).seen,(stD O U Y V i k).out,b9 (V.getD i Md.zero).name (dcl V i k) [] (stD O U Y V i k).bp⟩:=by
 rw [uh];unfold dP;rw [if_pos ⟨h,Bool.eq_false_iff.2 h2⟩,if_pos oq]
theorem To {i k:Nat} (h:(dcl V i k).kind=1) (h2:¬ aV (stD O U Y V i k).seen (dcl V i k).name=true) (h3:¬ (((bJ (dcl V i k).name true (stD O U Y V i k).seen).length:Nat):Int) > 8) :
 stD O U Y V i (k+1)=⟨bJ (dcl V i k).name true (stD O U Y V i k).seen,(stD O U Y V i k).out++[(dcl V i k).tab.named (dcl V i k).name],jq O U (fun e=>Y e==0) (fun n=>aL n (tmA V)) (V.getD i Md.zero).name (dcl V i k) (stD O U Y V i k).bp⟩:=by
 rw [uh];unfold dP;rw [if_pos ⟨h,Bool.eq_false_iff.2 h2⟩,if_neg oq]
theorem Kc {t:Tb} (h:t.ok) (n:List UInt8):(t.named n).ok:=⟨h.c,h.k,h.r,h.z⟩
theorem PX {O:List UInt8->Bool} {U:Ty->Bool} {Y:Ex->Bool} {fst:List UInt8->Option Tb} {doc:List UInt8} {d:Dc} (hd:d.tab.ok) (s:SP):(dP O U Y fst doc d s).bp.2.length<=s.bp.2.length+302:=by
 have h1:=hd.c;have h2:=hd.k;have h3:=hd.r;have ht:=HY (O:=O) (U:=U) (Y:=Y) (fst:=fst) (doc:=doc) (d:=d) (s:=s.bp);unfold dP;split
 . split
   . simp [b9]
   . show (jq O U Y fst doc d s.bp).2.length<=_;omega
 . omega
theorem xd (hf:rW Z O U Y V) {i:Nat} (hi:i<V.length):∀ k,k<=(V.getD i Md.zero).decls.length->(stD O U Y V i k).bp.2.length<=(stI O U Y V i).bp.2.length+302 * k
 | 0,_=>Nat.le_refl _
 | k+1,h=>by
  have h1:=xd hf hi k oq;have h2:=PX (d:=dcl V i k) (O:=O) (U:=U) (Y:=fun e=>Y e==0) (fst:=fun n=>aL n (tmA V)) (doc:=(V.getD i Md.zero).name) (hf.d i hi k oq).ok.t (stD O U Y V i k);rw [uh];omega
theorem D6 (hf:rW Z O U Y V):∀ i,i<=V.length->(stI O U Y V i).bp.2.length<=12080 * i
 | 0,_=>Nat.le_refl _
 | i+1,h=>by
  have h1:=D6 hf i oq;have h2:=xd hf (by omega:i<V.length) _ (Nat.le_refl _);have h3:=hf.m i;show (stD O U Y V i (V.getD i Md.zero).decls.length).bp.2.length<=_;omega
theorem J9 (hf:rW Z O U Y V) {i k:Nat} (hi:i<V.length) (hk:k<=(V.getD i Md.zero).decls.length):(stD O U Y V i k).bp.2.length<50000:=by
 have h1:=xd hf hi k hk;have h2:=D6 hf i oq;have h3:=hf.m i;have h4:=hf.n;omega
theorem Vm {O:List UInt8->Bool} {U:Ty->Bool} {Y:Ex->Bool} {fst:List UInt8->Option Tb} {doc:List UInt8} {d:Dc} (hd:d.tab.ok) {s:SP} (h:∀ t∈s.out,t.ok):∀ t∈(dP O U Y fst doc d s).out,t.ok:=by
 unfold dP;split
 . split
   . exact h
   . intro t ht;rcases List.mem_append.1 ht with q|q
     . exact h t q
     . rw [List.mem_singleton] at q;subst q;exact Kc hd _
 . exact h
theorem KA (hf:rW Z O U Y V) {i:Nat} (hi:i<V.length) (h:∀ t∈(stI O U Y V i).out,t.ok):∀ k,k<=(V.getD i Md.zero).decls.length->∀ t∈(stD O U Y V i k).out,t.ok
 | 0,_=>h
 | k+1,hk=>Vm (hf.d i hi k oq).ok.t (KA hf hi h k oq)
theorem Ks (hf:rW Z O U Y V):∀ i,i<=V.length->∀ t∈(stI O U Y V i).out,t.ok
 | 0,_=>fun t ht=>by cases ht
 | i+1,h=>KA hf oq (Ks hf i oq) _ (Nat.le_refl _)
theorem Ng {l:Tm_} {n:List UInt8} {v:Tb} (hv:v.ok) (h:∀ k x,aL k l=some x->x.ok):∀ k x,aL k (bJ n v l)=some x->x.ok:=by
 intro k x hx;rw [mG] at hx;split at hx
 . cases hx;exact hv
 . exact h k x hx
theorem Hr (hf:rW Z O U Y V) {i:Nat} (hi:i<V.length) (h:∀ n x,aL n (tmI V i)=some x->x.ok):∀ k,k<=(V.getD i Md.zero).decls.length->∀ n x,aL n (tmD V i k)=some x->x.ok
 | 0,_=>h
 | k+1,hk=>by
  have ih:=Hr hf hi h k oq;rw [Dx];unfold tmf;split
  . exact Ng (hf.d i hi k oq).ok.t ih
  . exact ih
theorem Jt (hf:rW Z O U Y V):∀ i,i<=V.length->∀ n x,aL n (tmI V i)=some x->x.ok
 | 0,_=>fun n x h=>by cases h
 | i+1,h=>Hr hf oq (Jt hf i oq) _ (Nat.le_refl _)
theorem RD (hf:rW Z O U Y V):∀ n x,aL n (tmA V)=some x->x.ok:=Jt hf _ (Nat.le_refl _)
end
theorem mz (B:List lE) (l:List Tb):∀ k,(itP B k l).Sublist l
 | 0=>List.Sublist.refl _
 | k+1=>List.filter_sublist.trans (mz B l k)
theorem rY {B:List lE} {l:List Tb} {k:Nat} (h:kg B (itP B k l)=itP B k l):∀ j,itP B (k+j) l=itP B k l
 | 0=>rfl
 | j+1=>by rw [<- Nat.add_assoc,itP,rY h j,h]
theorem Ee (B:List lE) (l:List Tb):∀ k,(∀ j,j<k->¬ kg B (itP B j l)=itP B j l)->(itP B k l).length+k<=l.length
 | 0,_=>Nat.le_refl _
 | k+1,h=>by
  have h1:=Ee B l k (fun j hj=>h j oq);have h2:(kg B (itP B k l)).length<=(itP B k l).length:=(List.filter_sublist).length_le;have h3:¬ (itP B k l).length<=(kg B (itP B k l)).length:=fun q=>h k oq (yG List.filter_sublist q)
  show (kg B (itP B k l)).length+(k+1)<=_;omega
theorem Pd {B:List lE} {l:List Tb} (hl:l.length<=8):kg B (itP B 9 l)=itP B 9 l:=by
 apply Classical.byContradiction;intro hc
 have hall:∀ j,j<9->¬ kg B (itP B j l)=itP B j l:=fun j hj q=>hc (by
  have e:=rY q (9 - j);rw [show j+(9 - j)=9 by omega] at e;rw [e,q])
 have:=Ee B l 9 hall;omega
theorem Li {B:List lE} {l:List Tb} (hl:l.length<=8) {k:Nat} (h:(itP B k l).length<=(kg B (itP B k l)).length):itP B k l=itP B 9 l:=by
 have hk:kg B (itP B k l)=itP B k l:=yG List.filter_sublist h;rcases Nat.le_total k 9 with q|q
 . obtain ⟨c,hc⟩:=Nat.le.dest q;rw [<- hc,rY hk]
 . obtain ⟨c,rfl⟩:=Nat.le.dest q;exact rY (Pd hl) c
theorem DT {l:List Tb} {p:Tb->Bool} (h:l.any p=true):(l.filter (fun t=>!p t)).length<l.length:=by
 rw [List.any_eq_true] at h;obtain ⟨x,h1,h2⟩:=h;have h3:(l.filter (fun t=>!p t)).length<=l.length:=(List.filter_sublist).length_le;rcases Nat.lt_or_eq_of_le h3 with q|q
 . exact q
 . have:=yG (List.filter_sublist (p:=fun t=>!p t)) (Nat.le_of_eq q.symm);rw [List.filter_eq_self] at this;have:=this x h1;rw [h2] at this;cases this
theorem HD {l:List Tb} {p:Tb->Bool} (h:¬ l.any p=true):l.filter (fun t=>!p t)=l:=by
 rw [List.filter_eq_self];intro x hx;cases e:p x with
 | false=>rfl
 | true=>exact absurd (List.any_eq_true.2 ⟨x,hx,e⟩) h
mutual
theorem iM:∀ x:aa,x.bel 0=true->x.refs=[]
 | .agg cs,h=>by simp only [aa.refs];exact dM cs (by simpa [aa.bel] using h)
 | .tup cs,h=>by simp only [aa.refs];exact dM cs (by simpa [aa.bel] using h)
 | .pimm cs _,h=>by simp only [aa.refs];exact dM cs (by simpa [aa.bel] using h)
 | .imm l,h=>by simp only [aa.refs];exact dM l (by simpa [aa.bel] using h)
 | .full l,h=>by simp only [aa.refs];exact dM l (by simpa [aa.bel] using h)
 | .fn f xs ys,h=>by
  simp only [aa.bel,Bool.and_eq_true] at h;simp only [aa.refs,dM xs h.1,dM ys h.2,List.append_nil]
 | .iface t v,h=>by simp only [aa.refs];exact iM v (by simpa [aa.bel] using h)
 | .ptr o _,h=>by simp [aa.bel] at h
 | .pown o _ _ _,h=>by simp [aa.bel] at h
 | .own o _ _,h=>by simp [aa.bel] at h
 | .map o,h=>by simp [aa.bel] at h
 | .itr o,h=>by simp [aa.bel] at h
 | .any,_=>rfl
 | .bool _,_=>rfl
 | .int _ _,_=>rfl
 | .str _,_=>rfl
 | .nilp,_=>rfl
 | .nilm,_=>rfl
 | .nilfn,_=>rfl
 | .nili,_=>rfl
theorem dM:∀ l:List aa,aC 0 l=true->ep l=[]
 | [],_=>rfl
 | x::l,h=>by
  simp only [aC,Bool.and_eq_true] at h;simp only [ep,iM x h.1,dM l h.2,List.append_nil]
end
theorem E5 (l:List Md):ep (l.map Md.v)=[]:=iM (.imm (l.map Md.v)) (zu 0 l)
theorem GY (l:List Sm):ep (l.map Sm.v)=[]:=iM (.imm (l.map Sm.v)) (Am 0 l)
theorem Fm (l:List Tb):ep (l.map Tb.v)=[]:=iM (.imm (l.map Tb.v)) (oP 0 l)
theorem Gv (l:List Pb):ep (l.map Pb.v)=[]:=iM (.imm (l.map Pb.v)) (z6 0 l)
theorem J3 (r:Nat->Nat) (l:List Md):bX r (l.map Md.v)=l.map Md.v:=nk r (zu 0 l)
theorem In (r:Nat->Nat) (l:List Sm):bX r (l.map Sm.v)=l.map Sm.v:=nk r (Am 0 l)
theorem HV (r:Nat->Nat) (l:List Tb):bX r (l.map Tb.v)=l.map Tb.v:=nk r (oP 0 l)
theorem Hl (r:Nat->Nat) (l:List Pb):bX r (l.map Pb.v)=l.map Pb.v:=nk r (z6 0 l)
theorem Mw (l:List (List UInt8×Bool)):(ay aa.str aa.bool l).flatMap (fun e=>e.1.refs++e.2.refs)=[]:=by
 rw [List.flatMap_eq_nil_iff];intro e he;obtain ⟨p,_,rfl⟩:=List.mem_map.1 he;simp [aa.refs]
theorem Ln (l:Tm_):(ay aa.str Tb.v l).flatMap (fun e=>e.1.refs++e.2.refs)=[]:=by
 rw [List.flatMap_eq_nil_iff];intro e he;obtain ⟨p,_,rfl⟩:=List.mem_map.1 he;simp [aa.refs,iM _ (Tb.bel_v 0 p.2)]
theorem zH (l:List Tb) (H:af) (hn:l.length<1000) (hb:H.all (am.belO (H.length+1))=true):av cx 29 [.imm (l.map Tb.v)] H (fun v h=>v=.own H.length 0 l.length/\h=H++(uy l)):=by
 have:=D2 (l.map Tb.v) H (gr (fun _=>rfl) l) (by simp [iC];omega) hb (oP _ l)
 rwa [List.length_map] at this
section
variable {O:List UInt8->Bool} {U:Ty->Bool} {Y:Ex->Int} {V:List Md} {Z:List Sm}
def bp0:BP:=([],[])
def gT (O:List UInt8->Bool) (U:Ty->Bool) (Y:Ex->Int) (V:List Md) (Z:List Sm):Sc:=⟨Z,jL (itP (stI O U Y V V.length).bp.1 9 (stI O U Y V V.length).out).length (itP (stI O U Y V V.length).bp.1 9 (stI O U Y V V.length).out)⟩
abbrev aU (O:List UInt8->Bool)(U:Ty->Bool)(Y:Ex->Int)(V:List Md):=stI O U Y V V.length
theorem yy:(aU O U Y V).out.length<=8:=(PR (O:=O) (U:=U) (Y:=Y) (V:=V) V.length).len.1
theorem Jc (i k:Nat):(stD O U Y V i k).out.length<=8:=(Rr (O:=O) (U:=U) (Y:=Y) (V:=V) i k).len.1
theorem r8 (q:Nat):(itP (aU O U Y V).bp.1 q (aU O U Y V).out).length<=8:=Nat.le_trans (mz _ _ q).length_le yy
theorem Ky (hf:rW Z O U Y V) (q:Nat):∀ t∈(itP (aU O U Y V).bp.1 q (aU O U Y V).out),t.ok:=fun t ht=>Ks hf V.length (Nat.le_refl _) t ((mz _ _ q).subset ht)
theorem DE {q:Nat} (h:¬ (itP (aU O U Y V).bp.1 q (aU O U Y V).out).any (dC (aU O U Y V).bp.1 (nmF (aU O U Y V).bp.1 (itP (aU O U Y V).bp.1 q (aU O U Y V).out) (itP (aU O U Y V).bp.1 q (aU O U Y V).out).length))=true):(itP (aU O U Y V).bp.1 q (aU O U Y V).out)=(itP (aU O U Y V).bp.1 9 (aU O U Y V).out):=by
 refine Li yy (Nat.le_of_eq ?_);show _=(List.filter _ _).length;rw [HD h]
theorem Id {q:Nat}:(itP (aU O U Y V).bp.1 q (aU O U Y V).out).filter (fun t=>!dC (aU O U Y V).bp.1 (nmF (aU O U Y V).bp.1 (itP (aU O U Y V).bp.1 q (aU O U Y V).out) (itP (aU O U Y V).bp.1 q (aU O U Y V).out).length) t)=(itP (aU O U Y V).bp.1 (q+1) (aU O U Y V).out):=rfl
theorem P9 {a b:Nat} (h:a<b):decide (((a:Nat):Int)<((b:Nat):Int))=true:=decide_eq_true oq
theorem PY {a b:Nat} (h:¬ a<b):decide (((a:Nat):Int)<((b:Nat):Int))=false:=decide_eq_false oq
end
abbrev bM (V:List Md)(i:Nat)(k:Nat):=((V.getD i Md.zero).decls.getD k Dc.zero)
abbrev AY (V:List Md)(i:Nat)(k:Nat):=(Dc.mk ((bM V i k).kind) ((bM V i k).name) ((bM V i k).sum) ((bM V i k).tab) ((bM V i k).na) ((bM V i k).pos) ((bM V i k).fin))
abbrev aM (O:List UInt8->Bool)(U:Ty->Bool)(Y:Ex->Int)(V:List Md):=(stI O U Y V V.length)
abbrev QO (V:List Md)(i:Nat)(k:Nat):List aa:=[.str (bM V i k).name,.imm (((bM V i k).tab).cols.map Co.v),.imm (((bM V i k).tab).key.map aa.str),.imm (((bM V i k).tab).refs.map Rf.v),.int .i64 (((bM V i k).tab).chk.kind),.str ((bM V i k).tab).chk.name,.int .i64 (((bM V i k).tab).chk.n),.str ((bM V i k).tab).chk.s,.imm (((bM V i k).tab).chk.names.map aa.str),.imm (((bM V i k).tab).chk.binds.map aa.str),.imm (((bM V i k).tab).chk.kids.map Ex.enc),.int .i64 (((bM V i k).tab).chk.pos),.int .i64 (((bM V i k).tab).chk.fin)]
abbrev rH (Z:List Sm)(O:List UInt8->Bool)(U:Ty->Bool)(Y:Ex->Int)(V:List Md):List aa:=[.imm (Z.map Sm.v),.map 1,.map 2,.own 3 0 (aM O U Y V).bp.2.length]
abbrev oI (V:List Md)(x:Nat)(y:Nat):=((V.getD x Md.zero).decls.getD y Dc.zero)
abbrev ml (V:List Md):=(ay aa.str Tb.v (tmA V))
abbrev xv :=(ay aa.str aa.bool ([]:List (List UInt8×Bool)))
abbrev rU (O:List UInt8->Bool)(U:Ty->Bool)(Y:Ex->Int)(V:List Md):=(ay aa.str aa.bool (aM O U Y V).bp.1)
abbrev fk :List aa:=[.full [],.full []]
abbrev eW (V:List Md)(i:Nat):=(V.getD i Md.zero)
abbrev HL (V:List Md)(i:Nat)(k:Nat):=(Tb.mk ((bM V i k).name) (((bM V i k).tab).cols) (((bM V i k).tab).key) (((bM V i k).tab).refs) (((bM V i k).tab).chk))
abbrev oX (O:List UInt8->Bool)(U:Ty->Bool)(Y:Ex->Int)(V:List Md):=(itP (aM O U Y V).bp.1 9 (aM O U Y V).out)
abbrev Pu (Z:List Sm):List am:=[.box [.imm (Z.map Sm.v),.map 1,.map 2,.own 3 0 0],.map (ay aa.str Tb.v ([]:List (List UInt8×Tb))),.map xv,.arr 5 (([]:List (Pb)).map Pb.v) 0,.box [.ptr 0 0],.box fk]
abbrev lj (O:List UInt8->Bool)(U:Ty->Bool)(Y:Ex->Int)(V:List Md):=((aM O U Y V).bp.2.map Pb.v)
abbrev O0 (Z:List Sm)(O:List UInt8->Bool)(U:Ty->Bool)(Y:Ex->Int)(V:List Md)(i:Nat):List am:=[.box [.imm (Z.map Sm.v),.map 1,.map 2,.own 3 0 (stI O U Y V i).bp.2.length],.map (ml V),.map (ay aa.str aa.bool (stI O U Y V i).bp.1),.arr 5 ((stI O U Y V i).bp.2.map Pb.v) 0,.box [.ptr 0 0],.box fk]
abbrev qI (V:List Md)(i:Nat):=((eW V i).name)
abbrev lG (O:List UInt8->Bool)(U:Ty->Bool)(Y:Ex->Int)(V:List Md)(i:Nat):=((stI O U Y V i).out.map Tb.v)
abbrev lc (V:List Md)(i:Nat):=((eW V i).decls.map Dc.v)
abbrev AU (V:List Md)(i:Nat)(k:Nat)(O:List UInt8->Bool)(U:Ty->Bool)(Y:Ex->Int):=(bJ ((bM V i k).name) true (stD O U Y V i k).seen)
abbrev ls (V:List Md)(x:Nat):=(V.getD x Md.zero)
theorem gw {p:Prop} (h:p:=by simp [am.belO,hpT,hpG,hpF,hpD,aC,cw,Dr,iA,aa.bel,Ty.v,Ex.v,Ct.v,Co.v,Rf.v,Sm.v,Tb.v_cs,Sc.v,Md.v,Pb.v,Ls.v,-List.map_take,-List.map_drop,-List.map_append,-List.map_set]):p:=h
theorem mZ {p:Prop} (h:p:=by simp [-List.map_append,-List.map_take,-List.map_drop,-List.append_assoc,aa.refs,ep,am.refs,am.isIter,KO,Abs.renT,nR,FQ,am.ren,aa.ren,bX,List.idxOf_cons,Mw,Ln,E5,GY,Fm,Gv,J3,In,HV,Hl]):p:=h
theorem AI {p:Prop} (h:p:=by (first|rw [SX aq]|rw [SA aq]|rw [Sr oq aq aq]|rw [To oq aq aq])):p:=h
theorem Gi {p:Prop} (h:p:=by simp [gL,am.ren,bX,aa.ren,nk,cb,eY,dG,List.map_map,Ty.v,Ex.v,Ct.v,Co.v,Rf.v,Sm.v,Tb.v_cs,Sc.v,Md.v,Pb.v,Ls.v,-List.map_take,-List.map_drop,-List.map_append]):p:=h
theorem Qn {p:Prop} (h:p:=by (first|rw [Sq aq aq]|rw [Tq aq]|rw [VF aq])):p:=h
theorem kZ {p:Prop} (h:p:=by show _=_;kernel_rfl):p:=h
theorem i3 {p:Prop} (h:p:=by exact Nat.zero_le _):p:=h
abbrev HX (Z:List Sm):List aa:=[.imm (Z.map Sm.v),.map 1,.map 2,.own 3 0 bp0.2.length]
abbrev QR (O:List UInt8->Bool)(U:Ty->Bool)(Y:Ex->Int)(V:List Md)(i:Nat)(k:Nat):=ay aa.str aa.bool (jq O U (fun e=>Y e==0) (fun n=>aL n (tmA V)) (qI V i) (AY V i k) ((stD O U Y V i k).bp)).1
abbrev RJ (O:List UInt8->Bool)(U:Ty->Bool)(Y:Ex->Int)(V:List Md)(i:Nat)(k:Nat):=(jq O U (fun e=>Y e==0) (fun n=>aL n (tmA V)) (qI V i) (AY V i k) ((stD O U Y V i k).bp)).2.map Pb.v
abbrev E9 :=ay aa.str aa.bool ([]:List (List UInt8×Bool))
abbrev u7 (Z:List Sm)(O:List UInt8->Bool)(U:Ty->Bool)(Y:Ex->Int)(V:List Md):List aa:=[.imm (Z.map Sm.v),.map 1,.map 2,.own 3 0 (aU O U Y V).bp.2.length]
abbrev oi (V:List Md):=ay aa.str Tb.v (tmA V)
abbrev u9 (O:List UInt8->Bool)(U:Ty->Bool)(Y:Ex->Int)(V:List Md):=ay aa.str aa.bool (aU O U Y V).bp.1
abbrev th (O:List UInt8->Bool)(U:Ty->Bool)(Y:Ex->Int)(V:List Md):=(aU O U Y V).bp.2.map Pb.v
abbrev H1 :=ay aa.str aa.bool bp0.1
abbrev Ru (O:List UInt8->Bool)(U:Ty->Bool)(Y:Ex->Int)(V:List Md)(i:Nat)(k:Nat):=jq O U (fun e=>Y e==0) (fun n=>aL n (tmA V)) (qI V i) (AY V i k) ((stD O U Y V i k).bp)
abbrev lC (V:List Md):=V.map Md.v
theorem ww (O:List UInt8->Bool) (U:Ty->Bool) (Y:Ex->Int) (Z:List Sm) (V:List Md) (hf:rW Z O U Y V) (hsum:ae cx 24 [.imm (lC V)] (.imm (cU Z))):ae cx 7 [.imm (lC V)] (.tup [Sc.v (gT O U Y V Z),.imm (th O U Y V)]):=by
 have hmn:=hf.n;refine fI 162 0 [(ResultVar.cell 2 28),(ResultVar.tmp 3)] Tryz.func7 kq ?_;refine zZ (fun _=>[(0,.imm (lC V))]) (fun _=>[]) ?_ ?_;apply zW 2 (mU [(2,.ptr 0 0)]) (mH [] [.box fk]);apply zV 1;refine qP (hsum) bk bk bk kq ?_;refine zR 6 (fun _=>[(0,.imm (lC V)),(2,.ptr 0 0),(4,.ptr 4 0)]) (fun _=>[.box fk,.map (ay aa.str Tb.v ([]:List (List UInt8×Tb))),.map xv,.box [.imm (cU Z),.map 1,.map 2,.full []],.box [.ptr 3 0]]) ?_ ?_;refine wu 3 3 5 (cs:=[.imm (cU Z),.map 1,.map 2,.full []]) [.imm (cU Z),.map 1,.map 2,.own 5 0 0] dq kq kq kq ?_;refine Ai [3,1,2,5,4,0] [(0,.imm (lC V)),(2,.ptr 5 0),(4,.ptr 4 0)] (Pu Z) dq mZ mZ mZ mZ ?_;refine zZ (fun _=>[(0,.imm (lC V)),(2,.ptr 5 0),(4,.ptr 4 0)]) (fun _=>(Pu Z)) ?_ ?_;apply ai;apply zV 1;refine qy (aj (l:=V) (enc:=Md.v) kq F4) ?_ ?_ ?_;apply zR 1 (mU [(29,.imm (lC V)),(30,nI V.length),(31,.int .i64 0)]) id;apply qB 0;refine aT (σ:=Nat) (fun x=>[(0,.imm (lC V)),(2,.ptr 5 0),(4,.ptr 4 0),(29,.imm (lC V)),(30,.int .i64 ((V.length:Nat):Int)),(31,.int .i64 ((x:Nat):Int))]) (fun x=>[.box (HX Z),.map (ay aa.str Tb.v (tmI V x)),.map H1,.arr 5 (bp0.2.map Pb.v) 0,.box [.ptr 0 0],.box ig]) (fun x=>x<=V.length) (fun x=>V.length - x) 0 kq i3 (fg kq (Eq.trans (b:=[.box [.imm (cU Z),.map 1,.map 2,.own 3 0 0],.map (ay aa.str Tb.v ([]:List (List UInt8×Tb))),.map E9,.arr 5 (([]:List (Pb)).map Pb.v) 0,.box [.ptr 0 0],.box ig]) kq kZ) aA gw) ?_;rintro x hx;have hmx:=hf.m x;apply zW 1 (mU [(32,.bool (decide (((x:Nat):Int)<((V.length:Nat):Int))))]) id;apply ai;by_cases hb1:((x:Nat):Int)<((V.length:Nat):Int);apply qt (decide_eq_true hb1);apply qK;apply zZ (mT [] [32]) id;apply ai;apply qB 1;refine zO ?_ ?_;refine qy ((au (k:=.i64) (l:=V) (enc:=Md.v) (i:=((x:Nat):Int)) Md.zero kq F4 QZ (fun _=>rfl) ar ar).trans (congrArg (fun cs=>some (aa.pimm cs 0,_)) (sR (ls V x)))) ?_ ?_ ?_;apply zR 3 (mU [(6,.ptr 6 0)]) (mH [] [.box [.str (ls V x).name,.imm ((ls V x).decls.map Dc.v)]]);apply zV 2;refine qy (aj (l:=(ls V x).decls) (enc:=Dc.v) kq gS) ?_ ?_ ?_;apply zR 1 (mT [(36,.imm ((ls V x).decls.map Dc.v)),(37,nI ((ls V x).decls.length)),(38,.int .i64 0)] [6]) id;apply qB 2;refine aT (σ:=Nat) (fun y=>[(0,.imm (lC V)),(2,.ptr 5 0),(4,.ptr 4 0),(29,.imm (lC V)),(30,.int .i64 ((V.length:Nat):Int)),(31,.int .i64 ((x:Nat):Int)),(36,.imm ((V.getD x Md.zero).decls.map Dc.v)),(37,.int .i64 (((V.getD x Md.zero).decls.length:Nat):Int)),(38,.int .i64 ((y:Nat):Int))]) (fun y=>[.box (HX Z),.map (ay aa.str Tb.v (tmD V x y)),.map H1,.arr 5 (bp0.2.map Pb.v) 0,.box [.ptr 0 0],.box ig,.box [.str (V.getD x Md.zero).name,.imm ((V.getD x Md.zero).decls.map Dc.v)]]) (fun y=>y<=(V.getD x Md.zero).decls.length) (fun y=>(V.getD x Md.zero).decls.length - y) 0 kq i3 (fg kq (Eq.trans (b:=[.box (HX Z),.map (ay aa.str Tb.v (tmI V x)),.map H1,.arr 5 (bp0.2.map Pb.v) 0,.box [.ptr 0 0],.box ig,.box [.str (V.getD x Md.zero).name,.imm ((V.getD x Md.zero).decls.map Dc.v)]]) kq kZ) aA gw) ?_;rintro y hy;apply zW 1 (mU [(39,.bool (decide (((y:Nat):Int)<(((ls V x).decls.length:Nat):Int))))]) id;apply ai;by_cases hb2:((y:Nat):Int)<(((V.getD x Md.zero).decls.length:Nat):Int);apply qt (decide_eq_true hb2);apply qK;apply zZ (mT [] [39]) id;apply ai;apply qB 3;refine zO ?_ ?_;refine qy ((au (k:=.i64) (l:=(ls V x).decls) (enc:=Dc.v) (i:=((y:Nat):Int)) Dc.zero kq gS rV (fun _=>rfl) ar ar).trans (congrArg (fun cs=>some (aa.pimm cs 0,_)) (om (oI V x y)))) ?_ ?_ ?_;apply zR 3 (mU [(8,.ptr 7 0)]) (mH [] [.box (Dc.cs (oI V x y))]);apply ai;refine zD cxM kq ax ?_;apply qu 6;rcases hm3:aL (((V.getD x Md.zero).decls.getD y Dc.zero).name) (tmD V x y) with _|x3;refine qd (sh (ok:=true) (o:=1) (ek:=aa.str) (ev:=Tb.v) (l:=(tmD V x y)) (k:=((oI V x y).name)) eN hm3 kq IE ty9 rfl d3 kq) ?_ ?_ ?_ ?_;apply qu 6;refine bY kq ⟨kq,?_⟩;refine zE (mU [(10,.bool false)]) (mH [] [.box iZ]) ?_ ?_;apply zW 7 (mT [(55,.ptr 7 0),(56,.int .i64 ((oI V x y).kind)),(57,.bool (((oI V x y).kind)==1)),(58,.bool (((oI V x y).kind)==1))] [10]) id;by_cases hb4:(((V.getD x Md.zero).decls.getD y Dc.zero).kind)=1;apply qt (beq_iff_eq.2 hb4);refine zD cxM kq (df ax) ?_;apply qu 8;refine qD (c5 (o:=1) (ek:=aa.str) (ev:=Tb.v) (l:=(tmD V x y)) (k:=((oI V x y).name)) (x:=((oI V x y).tab)) eN kq IE ty9 rfl kq kq) ?_ ?_ ?_ ?_;refine bY kq ⟨kq,?_⟩;refine ag ?_;apply ab;refine zZ (fun _=>[(0,.imm (lC V)),(2,.ptr 5 0),(4,.ptr 4 0),(29,.imm (lC V)),(30,nI V.length),(31,nI x),(36,.imm ((ls V x).decls.map Dc.v)),(37,nI ((ls V x).decls.length)),(38,nI y),(55,.ptr 7 0),(56,.int .i64 ((oI V x y).kind)),(57,.bool (((oI V x y).kind)==1))]) (fun _=>[.box (HX Z),.map (ay aa.str Tb.v (bJ ((oI V x y).name) ((oI V x y).tab) (tmD V x y))),.map H1,.arr 5 (bp0.2.map Pb.v) 0,.box [.ptr 0 0],.box fk,.box [.str (ls V x).name,.imm ((ls V x).decls.map Dc.v)],.box (Dc.cs (oI V x y)),.box iZ]) ?_ ?_;apply qo;refine qy (az (a:=((y:Nat):Int)) (b:=1) kq ar ar) ?_ ?_ ?_;apply qr 1;apply qe;refine ab ⟨y+1,?_,?_,(fg kq (hT Qn kq) aA gw)⟩
 . omega
 . omega
 iterate 11 kernel_rfl
 apply qf (beq_eq_false_iff_ne.2 hb4);refine qk ?_ ?_;refine ag ?_;apply ab;apply zZ (mT [] [8,58]) id;apply qo;refine qy (az (a:=((y:Nat):Int)) (b:=1) kq ar ar) ?_ ?_ ?_;apply qr 1;apply qe;refine ab ⟨y+1,?_,?_,(fg kq (hT Qn kq) aA gw)⟩
 . omega
 . omega
 iterate 14 kernel_rfl
 refine qd (xf (ok:=true) (o:=1) (ek:=aa.str) (ev:=Tb.v) (l:=(tmD V x y)) (k:=((oI V x y).name)) (x:=x3) eN hm3 kq IE ty9 rfl d3 kq) ?_ ?_ ?_ ?_;apply qu 6;refine bY kq ⟨kq,?_⟩;refine zE (mU [(10,.bool true)]) (mH [] [.box (Tb.cs x3)]) ?_ ?_;apply zW 7 (mT [(55,.tup []),(56,.tup []),(57,.tup []),(58,.bool false)] [10]) id;refine iu kq kq ?_;refine qk ?_ ?_;refine ag ?_;apply ab;apply zZ (mT [] [8,58]) id;apply qo;refine qy (az (a:=((y:Nat):Int)) (b:=1) kq ar ar) ?_ ?_ ?_;apply qr 1;apply qe;refine ab ⟨y+1,?_,?_,(fg kq (hT Qn kq) aA gw)⟩
 . omega
 . omega
 iterate 25 kernel_rfl
 apply qf (decide_eq_false hb2);refine aK 2 kq kq ?_;apply ac;apply ac;refine ao ?_;refine ag ?_;apply ab;apply zZ (mT [] [36,37,38,39]) id;apply qo;refine qy (az (a:=((x:Nat):Int)) (b:=1) kq ar ar) ?_ ?_ ?_;apply qr 1;apply qe;refine ab ⟨x+1,?_,?_,(fg kq (hT (by (rw [<- LY (by omega:y=(V.getD x Md.zero).decls.length)])) kq) aA gw)⟩
 . omega
 . omega
 iterate 25 kernel_rfl
 apply qf (decide_eq_false hb1);refine aK 0 kq kq ?_;apply ac;apply ac;refine ao ?_;apply ab;apply zZ (mT [] [29,30,31,32]) id;apply zW 2 (mU [(11,.map 6)]) (mH [] [.map xv]);apply zW 1 (mU [(12,.full [])]) id;refine jg 12 13 dq kq ?_;apply zZ (mK 1 [] []) (mO [(7,.arr 13 (([]:List (Tb)).map Tb.v) 0)]);apply ai;apply zV 1;refine qy (aj (l:=V) (enc:=Md.v) kq F4) ?_ ?_ ?_;apply zR 1 (mT [(70,.imm (lC V)),(71,nI V.length),(72,.int .i64 0)] [0]) id;apply qB 4;refine aT (σ:=Nat) (fun i=>[(2,.ptr 5 0),(4,.ptr 4 0),(11,.map 6),(12,.own 7 0 (stI O U Y V i).out.length),(70,.imm (lC V)),(71,.int .i64 ((V.length:Nat):Int)),(72,.int .i64 ((i:Nat):Int))]) (fun i=>[.box [.imm (cU Z),.map 1,.map 2,.own 3 0 (stI O U Y V i).bp.2.length],.map (oi V),.map (ay aa.str aa.bool (stI O U Y V i).bp.1),.arr 5 ((stI O U Y V i).bp.2.map Pb.v) 0,.box [.ptr 0 0],.box ig,.map (ay aa.str aa.bool (stI O U Y V i).seen),.arr 13 ((stI O U Y V i).out.map Tb.v) 0]) (fun i=>i<=V.length) (fun i=>V.length - i) 0 kq i3 ⟨⟨kq,kq,kq,(Eq.trans (b:=.own 7 0 0) kq kZ),kq,kq,kq,trivial⟩,aA,by simp,(Eq.trans (b:=[.box (HX Z),.map (ay aa.str Tb.v (tmI V x)),.map H1,.arr 5 (bp0.2.map Pb.v) 0,.box [.ptr 0 0],.box ig,.map E9,.arr 13 (([]:List (Tb)).map Tb.v) 0]) kq (by (have e_:x=V.length:=by omega);subst e_;show _=_;kernel_rfl)),gw⟩ ?_;rintro i hi;have hmi:=hf.m i;apply zW 1 (mU [(73,.bool (decide (((i:Nat):Int)<((V.length:Nat):Int))))]) id;apply ai;by_cases hb5:((i:Nat):Int)<((V.length:Nat):Int);apply qt (decide_eq_true hb5);apply qK;apply zZ (mT [] [73]) id;apply ai;apply qB 5;refine zO ?_ ?_;refine qy ((au (k:=.i64) (l:=V) (enc:=Md.v) (i:=((i:Nat):Int)) Md.zero kq F4 QZ (fun _=>rfl) ar ar).trans (congrArg (fun cs=>some (aa.pimm cs 0,_)) (sR (eW V i)))) ?_ ?_ ?_;apply zR 3 (mU [(14,.ptr 8 0)]) (mH [] [.box [.str (eW V i).name,.imm (lc V i)]]);apply zV 2;refine qy (aj (l:=(eW V i).decls) (enc:=Dc.v) kq gS) ?_ ?_ ?_;apply zR 1 (mU [(77,.imm (lc V i)),(78,nI ((eW V i).decls.length)),(79,.int .i64 0)]) id;apply qB 6;refine aT (σ:=Nat) (fun k=>[(2,.ptr 5 0),(4,.ptr 4 0),(11,.map 6),(12,.own 7 0 (stD O U Y V i k).out.length),(14,.ptr 8 0),(70,.imm (lC V)),(71,.int .i64 ((V.length:Nat):Int)),(72,.int .i64 ((i:Nat):Int)),(77,.imm ((V.getD i Md.zero).decls.map Dc.v)),(78,.int .i64 (((V.getD i Md.zero).decls.length:Nat):Int)),(79,.int .i64 ((k:Nat):Int))]) (fun k=>[.box [.imm (cU Z),.map 1,.map 2,.own 3 0 (stD O U Y V i k).bp.2.length],.map (oi V),.map (ay aa.str aa.bool (stD O U Y V i k).bp.1),.arr 5 ((stD O U Y V i k).bp.2.map Pb.v) 0,.box [.ptr 0 0],.box ig,.map (ay aa.str aa.bool (stD O U Y V i k).seen),.arr 13 ((stD O U Y V i k).out.map Tb.v) 0,.box [.str (V.getD i Md.zero).name,.imm ((V.getD i Md.zero).decls.map Dc.v)]]) (fun k=>k<=(V.getD i Md.zero).decls.length) (fun k=>(V.getD i Md.zero).decls.length - k) 0 kq i3 ⟨⟨kq,kq,kq,(Eq.trans (b:=.own 7 0 (stI O U Y V i).out.length) kq kZ),kq,kq,kq,kq,kq,kq,kq,trivial⟩,aA,by simp,(Eq.trans (b:=[.box [.imm (cU Z),.map 1,.map 2,.own 3 0 (stI O U Y V i).bp.2.length],.map (oi V),.map (ay aa.str aa.bool (stI O U Y V i).bp.1),.arr 5 ((stI O U Y V i).bp.2.map Pb.v) 0,.box [.ptr 0 0],.box ig,.map (ay aa.str aa.bool (stI O U Y V i).seen),.arr 13 ((stI O U Y V i).out.map Tb.v) 0,.box [.str (V.getD i Md.zero).name,.imm ((V.getD i Md.zero).decls.map Dc.v)]]) kq kZ),gw⟩ ?_;rintro k hk;have hbp:=J9 (i:=i) (k:=k) hf oq oq;have ho8:=Jc (O:=O) (U:=U) (Y:=Y) (V:=V) i k;have hos:=(Rr (O:=O) (U:=U) (Y:=Y) (V:=V) i k).len.2;apply zW 1 (mU [(80,.bool (decide (((k:Nat):Int)<(((eW V i).decls.length:Nat):Int))))]) id;apply ai;by_cases hb6:((k:Nat):Int)<(((V.getD i Md.zero).decls.length:Nat):Int);apply qt (decide_eq_true hb6);apply qK;apply zZ (mT [] [80]) id;apply ai;apply qB 7;refine zO ?_ ?_;refine qy ((au (k:=.i64) (l:=(eW V i).decls) (enc:=Dc.v) (i:=((k:Nat):Int)) Dc.zero kq gS rV (fun _=>rfl) ar ar).trans (congrArg (fun cs=>some (aa.pimm cs 0,_)) (om (bM V i k)))) ?_ ?_ ?_;apply zR 3 (mU [(16,.ptr 9 0)]) (mH [] [.box (Dc.cs (bM V i k))]);apply ai;apply zV 4;by_cases hb7:((w7 V i k).kind)=1;refine zm [85,86] (x:=(((bM V i k).kind) != 1)) (bne_eq_false_iff_eq.2 hb7) ?_ ?_;apply qr 3;refine qy (kV (a2:=0) (b2:=0) (ok:=false) (o:=6) (ek:=aa.str) (ev:=aa.bool) (l:=(stD O U Y V i k).seen) (k:=((bM V i k).name)) eN kq fd ty9 kq ty4 kq false kq) ?_ ?_ ?_;apply zR 1 (mU [(87,.map 6),(88,.ptr 9 1),(89,.str (bM V i k).name),(90,.bool (aV ((stD O U Y V i k).seen) ((bM V i k).name))),(91,.bool (aV ((stD O U Y V i k).seen) ((bM V i k).name)))]) id;by_cases hb8:(aV ((stD O U Y V i k).seen) ((w7 V i k).name))=true;apply qt (hb8);refine aK 7 kq kq ?_;apply ac;refine ao ?_;apply ab;apply zZ (mT [] [16,91]) id;apply qo;refine qy (az (a:=((k:Nat):Int)) (b:=1) kq ar ar) ?_ ?_ ?_;apply qr 1;apply qe;refine ab ⟨k+1,?_,?_,⟨⟨kq,kq,kq,(hT AI kq),kq,kq,kq,kq,kq,kq,kq,trivial⟩,aA,by simp,(hT AI kq),gw⟩⟩
 . omega
 . omega
 iterate 7 kernel_rfl
 apply qf (Bool.eq_false_iff.2 hb8);apply qK;apply zZ (mT [] [91]) id;apply zV 3;refine qY (c5 (o:=6) (ek:=aa.str) (ev:=aa.bool) (l:=(stD O U Y V i k).seen) (k:=((bM V i k).name)) (x:=true) eN kq fd ty9 rfl kq kq) ?_ ?_ ?_;refine zN id (mO [(6,.map (ay aa.str aa.bool (AU V i k O U Y)))]) ?_ ?_;apply ai;apply zV 1;refine qy (Qz (o:=6) (ek:=aa.str) (ev:=aa.bool) (l:=(AU V i k O U Y)) kq fd kq) ?_ ?_ ?_;apply zR 1 (mU [(97,.bool (decide ((((AU V i k O U Y).length:Nat):Int) > 8)))]) id;by_cases hb9:(((bJ ((w7 V i k).name) true (stD O U Y V i k).seen).length:Nat):Int) > 8;apply qt (decide_eq_true hb9);apply zV 4;refine qA (cJ Z (tmA V) ((stD O U Y V i k).bp) (qI V i) (AY V i k) [] oq (hf.d i oq k oq).ok.n (hf.d i oq k oq).ok.a) gw gw rfl gw gw kq ?_;refine zN (mT [] [16,97]) (mO [(0,.box [.imm (cU Z),.map 1,.map 2,.own 3 0 (b9 (qI V i) (AY V i k) [] ((stD O U Y V i k).bp)).2.length]),(2,.map (ay aa.str aa.bool (b9 (qI V i) (AY V i k) [] ((stD O U Y V i k).bp)).1)),(3,.arr 5 ((b9 (qI V i) (AY V i k) [] ((stD O U Y V i k).bp)).2.map Pb.v) 0)]) ?_ ?_;refine aK 7 kq kq ?_;apply ac;refine ao ?_;apply ab;apply zZ id id;apply qo;refine qy (az (a:=((k:Nat):Int)) (b:=1) kq ar ar) ?_ ?_ ?_;apply qr 1;apply qe;refine ab ⟨k+1,?_,?_,⟨⟨kq,kq,kq,(hT AI kq),kq,kq,kq,kq,kq,kq,kq,trivial⟩,aA,by simp,(hT AI kq),gw⟩⟩
 . omega
 . omega
 iterate 9 kernel_rfl
 apply qf (decide_eq_false hb9);apply qK;apply zZ (mT [] [97]) id;apply zV 4;refine qA (Fh O U Y Z (tmA V) ((stD O U Y V i k).bp) (qI V i) (AY V i k) (hf.d i oq k oq).ok oq (hf.d i oq k oq).hlow (hf.d i oq k oq).hsto (RD hf) (hf.d i oq k oq).hln (hf.d i oq k oq).hchk) gw gw rfl gw gw kq ?_;refine zN id (mO [(0,.box [.imm (cU Z),.map 1,.map 2,.own 3 0 (Ru O U Y V i k).2.length]),(2,.map (QR O U Y V i k)),(3,.arr 5 (RJ O U Y V i k) 0)]) ?_ ?_;apply zV 2;refine qP (tq ((bM V i k).tab) (hf.d i oq k oq).ok.t (hf.d i oq k oq).hst) bk bk bk kq ?_;apply zR 2 (mU [(17,.ptr 10 0)]) (mH [] [.box (Tb.cs ((bM V i k).tab))]);refine zW 4 (fun _=>[(2,.ptr 5 0),(4,.ptr 4 0),(11,.map 6),(12,.own 7 0 (stD O U Y V i k).out.length),(14,.ptr 8 0),(17,.ptr 10 0),(70,.imm (lC V)),(71,nI V.length),(72,nI i),(77,.imm (lc V i)),(78,nI ((eW V i).decls.length)),(79,nI k),(87,.map 6),(88,.ptr 9 1),(89,.str (bM V i k).name),(90,.bool (aV ((stD O U Y V i k).seen) ((bM V i k).name)))]) (fun _=>[.box [.imm (cU Z),.map 1,.map 2,.own 3 0 (Ru O U Y V i k).2.length],.map (ml V),.map (QR O U Y V i k),.arr 5 (RJ O U Y V i k) 0,.box [.ptr 0 0],.box fk,.map (ay aa.str aa.bool (AU V i k O U Y)),.arr 13 ((stD O U Y V i k).out.map Tb.v) 0,.box [.str (eW V i).name,.imm (lc V i)],.box (Dc.cs (bM V i k)),.box (QO V i k)]) ?_ ?_;apply qo;apply qr 3;refine qY (aX (o:=7) (len:=((stD O U Y V i k).out.length)) (l:=(stD O U Y V i k).out) (xs:=[(HL V i k)]) (enc:=Tb.v) (sz:=13) (fr:=0) (x:=(.full [.agg (QO V i k)])) kq cD d3 cD rfl kq rfl (by first|rfl|simp) kq ⟨by decide,(by kernel_rfl)⟩ (fun _=>rfl) (by simp;omega) (by simp;omega)) ?_ ?_ ?_;apply qr 1;apply qe;refine ag ?_;apply ab;refine zZ (fun _=>[(2,.ptr 5 0),(4,.ptr 4 0),(11,.map 6),(12,.own 7 0 ((stD O U Y V i k).out++[(HL V i k)]).length),(14,.ptr 8 0),(70,.imm (lC V)),(71,nI V.length),(72,nI i),(77,.imm (lc V i)),(78,nI ((eW V i).decls.length)),(79,nI k),(87,.map 6),(88,.ptr 9 1),(89,.str (bM V i k).name),(90,.bool (aV ((stD O U Y V i k).seen) ((bM V i k).name)))]) (fun _=>[.box [.imm (cU Z),.map 1,.map 2,.own 3 0 (Ru O U Y V i k).2.length],.map (ml V),.map (QR O U Y V i k),.arr 5 (RJ O U Y V i k) 0,.box [.ptr 0 0],.box fk,.map (ay aa.str aa.bool (AU V i k O U Y)),.arr 13 (((stD O U Y V i k).out++[(HL V i k)]).map Tb.v) 0,.box [.str (eW V i).name,.imm (lc V i)],.box (Dc.cs (bM V i k)),.box (QO V i k)]) ?_ ?_;apply qo;refine qy (az (a:=((k:Nat):Int)) (b:=1) kq ar ar) ?_ ?_ ?_;apply qr 1;apply qe;refine ab ⟨k+1,?_,?_,⟨⟨kq,kq,kq,(hT AI kq),kq,kq,kq,kq,kq,kq,kq,trivial⟩,aA,by simp,(hT AI kq),gw⟩⟩
 . omega
 . omega
 iterate 37 kernel_rfl
 refine zm [85,86] (x:=(((bM V i k).kind) != 1)) (bne_iff_ne.2 hb7) ?_ ?_;apply zR 5 (mU [(87,.tup []),(88,.tup []),(89,.tup []),(90,.tup []),(91,.bool true)]) id;refine ga kq kq ?_;refine aK 7 kq kq ?_;apply ac;refine ao ?_;apply ab;apply zZ (mT [] [16,91]) id;apply qo;refine qy (az (a:=((k:Nat):Int)) (b:=1) kq ar ar) ?_ ?_ ?_;apply qr 1;apply qe;refine ab ⟨k+1,?_,?_,⟨⟨kq,kq,kq,(hT AI kq),kq,kq,kq,kq,kq,kq,kq,trivial⟩,aA,by simp,(hT AI kq),gw⟩⟩
 . omega
 . omega
 iterate 20 kernel_rfl
 apply qf (decide_eq_false hb6);refine aK 6 kq kq ?_;apply ac;apply ac;refine ao ?_;refine ag ?_;apply ab;apply zZ (mT [] [14,77,78,79,80]) id;apply qo;refine qy (az (a:=((i:Nat):Int)) (b:=1) kq ar ar) ?_ ?_ ?_;apply qr 1;apply qe;refine ab ⟨i+1,?_,?_,⟨⟨kq,kq,kq,(hT (by (rw [<- DS (by omega:k=(V.getD i Md.zero).decls.length)])) kq),kq,kq,kq,trivial⟩,aA,by simp,(hT (by (rw [<- DS (by omega:k=(V.getD i Md.zero).decls.length)])) kq),gw⟩⟩
 . omega
 . omega
 iterate 25 kernel_rfl
 apply qf (decide_eq_false hb5);refine aK 4 kq kq ?_;apply ac;apply ac;refine ao ?_;apply ab;refine zZ (fun _=>[(2,.ptr 5 0),(4,.ptr 4 0),(12,.own 7 0 (stI O U Y V i).out.length)]) (fun _=>[.box [.imm (cU Z),.map 1,.map 2,.own 3 0 (stI O U Y V i).bp.2.length],.map (ml V),.map (ay aa.str aa.bool (stI O U Y V i).bp.1),.arr 5 ((stI O U Y V i).bp.2.map Pb.v) 0,.box [.ptr 0 0],.box fk,.map (ay aa.str aa.bool (stI O U Y V i).seen),.arr 13 (lG O U Y V i) 0]) ?_ ?_;refine bZ 12 7 (es:=(lG O U Y V i)) (off:=0) (len:=((stI O U Y V i).out.length)) (sz:=13) (fr:=0) (lG O U Y V i) kq kq zq kq ?_;apply zZ (mK 1 [(12,.imm (lG O U Y V i))] []) (mO [(7,.arr 13 (lG O U Y V i) (lG O U Y V i).length)]);apply ai;refine zW 1 (fun _=>[(2,.ptr 5 0),(4,.ptr 4 0),(12,.imm (lG O U Y V i)),(18,.bool true)]) (fun _=>[.box [.imm (cU Z),.map 1,.map 2,.own 3 0 (stI O U Y V i).bp.2.length],.map (ml V),.map (ay aa.str aa.bool (stI O U Y V i).bp.1),.arr 5 ((stI O U Y V i).bp.2.map Pb.v) 0,.box [.ptr 0 0],.box fk,.map (ay aa.str aa.bool (stI O U Y V i).seen),.arr 13 (lG O U Y V i) (lG O U Y V i).length]) ?_ ?_;refine Ai [0,1,2,3,4,5] [(2,.ptr 5 0),(4,.ptr 4 0),(12,.imm (lG O U Y V i)),(18,.bool true)] (O0 Z O U Y V i) dq mZ mZ mZ mZ ?_;refine zZ (fun _=>[(2,.ptr 5 0),(4,.ptr 4 0),(12,.imm (lG O U Y V i)),(18,.bool true)]) (fun _=>(O0 Z O U Y V i)) ?_ ?_;apply qB 8;refine aT (σ:=(Nat ⊕ Unit)) (fun z_=>match z_ with|.inl q=>[(2,.ptr 5 0),(4,.ptr 4 0),(12,.imm ((itP (aU O U Y V).bp.1 q (aU O U Y V).out).map Tb.v)),(18,.bool true)]|.inr u=>[(2,.ptr 5 0),(4,.ptr 4 0),(12,.own 6 0 (itP (aU O U Y V).bp.1 9 (aU O U Y V).out).length),(18,.bool false)]) (fun z_=>match z_ with|.inl q=>[.box (u7 Z O U Y V),.map (oi V),.map (u9 O U Y V),.arr 5 (th O U Y V) 0,.box [.ptr 0 0],.box ig]|.inr u=>[.box (u7 Z O U Y V),.map (oi V),.map (u9 O U Y V),.arr 5 (th O U Y V) 0,.box [.ptr 0 0],.box ig,.arr 13 ((itP (aU O U Y V).bp.1 9 (aU O U Y V).out).map Tb.v) 0]) (fun z_=>match z_ with|.inl q=>True|.inr u=>True) (fun z_=>match z_ with|.inl q=>(itP (aU O U Y V).bp.1 q (aU O U Y V).out).length+1|.inr u=>0) (.inl 0) kq zq ⟨⟨kq,kq,(Eq.trans (b:=.imm ((stI O U Y V i).out.map Tb.v)) kq (by (have e_:i=V.length:=by omega);subst e_;show _=_;kernel_rfl)),kq,trivial⟩,aA,by simp,(Eq.trans (b:=[.box [.imm (cU Z),.map 1,.map 2,.own 3 0 (stI O U Y V i).bp.2.length],.map (oi V),.map (ay aa.str aa.bool (stI O U Y V i).bp.1),.arr 5 ((stI O U Y V i).bp.2.map Pb.v) 0,.box [.ptr 0 0],.box ig]) kq (by (try dsimp only);(have e_:i=V.length:=by omega);subst e_;show _=_;kernel_rfl)),gw⟩ ?_;rintro (q|u) hz_;have _:=hz_;have hq8:=r8 (O:=O) (U:=U) (Y:=Y) (V:=V) q;refine zZ (fun _=>[(2,.ptr 5 0),(4,.ptr 4 0),(12,.imm ((itP (aM O U Y V).bp.1 q (aM O U Y V).out).map Tb.v)),(18,.bool true)]) (fun _=>[.box (rH Z O U Y V),.map (ml V),.map (rU O U Y V),.arr 5 (lj O U Y V) 0,.box [.ptr 0 0],.box fk]) ?_ ?_;apply ai;apply zW 1 (mT [(120,.bool true)] [18]) id;refine ga kq kq ?_;apply qK;apply zZ (mT [] [120]) id;apply qB 9;refine zW 3 (fun _=>[(2,.ptr 5 0),(4,.ptr 4 0),(12,.imm ((itP (aM O U Y V).bp.1 q (aM O U Y V).out).map Tb.v)),(19,.ptr 7 0)]) (fun _=>[.box (rH Z O U Y V),.map (ml V),.map (rU O U Y V),.arr 5 (lj O U Y V) 0,.box [.ptr 0 0],.box fk,.map xv,.box [.map 6]]) ?_ ?_;refine Ai [0,1,2,3,4,5,7,6] [(2,.ptr 5 0),(4,.ptr 4 0),(12,.imm ((itP (aM O U Y V).bp.1 q (aM O U Y V).out).map Tb.v)),(19,.ptr 6 0)] [.box (rH Z O U Y V),.map (ml V),.map (rU O U Y V),.arr 5 (lj O U Y V) 0,.box [.ptr 0 0],.box fk,.box [.map 7],.map xv] dq mZ mZ mZ mZ ?_;refine zZ (fun _=>[(2,.ptr 5 0),(4,.ptr 4 0),(12,.imm ((itP (aM O U Y V).bp.1 q (aM O U Y V).out).map Tb.v)),(19,.ptr 6 0)]) (fun _=>[.box (rH Z O U Y V),.map (ml V),.map (rU O U Y V),.arr 5 (lj O U Y V) 0,.box [.ptr 0 0],.box fk,.box [.map 7],.map xv]) ?_ ?_;apply ai;apply zV 1;refine qy (aj (l:=(itP (aM O U Y V).bp.1 q (aM O U Y V).out)) (enc:=Tb.v) kq cD) ?_ ?_ ?_;apply zR 1 (mU [(122,.imm ((itP (aM O U Y V).bp.1 q (aM O U Y V).out).map Tb.v)),(123,nI ((itP (aM O U Y V).bp.1 q (aM O U Y V).out).length)),(124,.int .i64 0)]) id;apply qB 10;refine aT (σ:=Nat) (fun i=>[(2,.ptr 5 0),(4,.ptr 4 0),(12,.imm ((itP (aU O U Y V).bp.1 q (aU O U Y V).out).map Tb.v)),(19,.ptr 6 0),(122,.imm ((itP (aU O U Y V).bp.1 q (aU O U Y V).out).map Tb.v)),(123,.int .i64 (((itP (aU O U Y V).bp.1 q (aU O U Y V).out).length:Nat):Int)),(124,.int .i64 ((i:Nat):Int))]) (fun i=>[.box (u7 Z O U Y V),.map (oi V),.map (u9 O U Y V),.arr 5 (th O U Y V) 0,.box [.ptr 0 0],.box ig,.box [.map 7],.map (ay aa.str aa.bool (nmF (aU O U Y V).bp.1 (itP (aU O U Y V).bp.1 q (aU O U Y V).out) i))]) (fun i=>i<=(itP (aU O U Y V).bp.1 q (aU O U Y V).out).length) (fun i=>(itP (aU O U Y V).bp.1 q (aU O U Y V).out).length - i) 0 kq i3 (fg kq (Eq.trans (b:=[.box (u7 Z O U Y V),.map (oi V),.map (u9 O U Y V),.arr 5 (th O U Y V) 0,.box [.ptr 0 0],.box ig,.box [.map 7],.map E9]) kq kZ) aA gw) ?_;rintro i hi;apply zW 1 (mU [(125,.bool (decide (((i:Nat):Int)<(((itP (aM O U Y V).bp.1 q (aM O U Y V).out).length:Nat):Int))))]) id;apply ai;by_cases hb10:((i:Nat):Int)<(((itP (aU O U Y V).bp.1 q (aU O U Y V).out).length:Nat):Int);apply qt (decide_eq_true hb10);apply qK;apply zZ (mT [] [125]) id;apply ai;apply qB 11;refine zO ?_ ?_;refine qy ((au (k:=.i64) (l:=(itP (aM O U Y V).bp.1 q (aM O U Y V).out)) (enc:=Tb.v) (i:=((i:Nat):Int)) Tb.zero kq cD d3 (fun _=>rfl) ar ar).trans (congrArg (fun cs=>some (aa.pimm cs 0,_)) (cL ((itP (aM O U Y V).bp.1 q (aM O U Y V).out).getD i Tb.zero)))) ?_ ?_ ?_;apply zR 3 (mU [(21,.ptr 8 0)]) (mH [] [.box (Tb.cs ((itP (aM O U Y V).bp.1 q (aM O U Y V).out).getD i Tb.zero))]);refine zD cxM kq (df ax) ?_;apply qu 9;refine qd (kV (a2:=0) (b2:=0) (ok:=false) (o:=2) (ek:=aa.str) (ev:=aa.bool) (l:=(aM O U Y V).bp.1) (k:=(((itP (aM O U Y V).bp.1 q (aM O U Y V).out).getD i Tb.zero).name)) eN kq fd ty9 kq ty4 kq false kq) ?_ ?_ ?_ ?_;apply qu 1;refine qD (c5 (o:=7) (ek:=aa.str) (ev:=aa.bool) (l:=(nmF (aM O U Y V).bp.1 (itP (aM O U Y V).bp.1 q (aM O U Y V).out) i)) (k:=(((itP (aM O U Y V).bp.1 q (aM O U Y V).out).getD i Tb.zero).name)) (x:=(!(aV ((aM O U Y V).bp.1) (((itP (aM O U Y V).bp.1 q (aM O U Y V).out).getD i Tb.zero).name)))) eN kq fd ty9 rfl kq kq) ?_ ?_ ?_ ?_;refine bY kq ⟨kq,?_⟩;refine ag ?_;apply ab;refine zZ (fun _=>[(2,.ptr 5 0),(4,.ptr 4 0),(12,.imm ((itP (aM O U Y V).bp.1 q (aM O U Y V).out).map Tb.v)),(19,.ptr 6 0),(122,.imm ((itP (aM O U Y V).bp.1 q (aM O U Y V).out).map Tb.v)),(123,nI ((itP (aM O U Y V).bp.1 q (aM O U Y V).out).length)),(124,nI i)]) (fun _=>[.box (rH Z O U Y V),.map (ml V),.map (rU O U Y V),.arr 5 (lj O U Y V) 0,.box [.ptr 0 0],.box fk,.box [.map 7],.map (ay aa.str aa.bool (bJ (((itP (aM O U Y V).bp.1 q (aM O U Y V).out).getD i Tb.zero).name) (!(aV ((aM O U Y V).bp.1) (((itP (aM O U Y V).bp.1 q (aM O U Y V).out).getD i Tb.zero).name))) (nmF (aM O U Y V).bp.1 (itP (aM O U Y V).bp.1 q (aM O U Y V).out) i))),.box (Tb.cs ((itP (aM O U Y V).bp.1 q (aM O U Y V).out).getD i Tb.zero))]) ?_ ?_;apply qo;refine qy (az (a:=((i:Nat):Int)) (b:=1) kq ar ar) ?_ ?_ ?_;apply qr 1;apply qe;refine ab ⟨i+1,?_,?_,(fg kq (Eq.trans (b:=[.box (u7 Z O U Y V),.map (oi V),.map (u9 O U Y V),.arr 5 (th O U Y V) 0,.box [.ptr 0 0],.box ig,.box [.map 7],.map (ay aa.str aa.bool (bJ (((itP (aU O U Y V).bp.1 q (aU O U Y V).out).getD i Tb.zero).name) (!(aV ((aU O U Y V).bp.1) (((itP (aU O U Y V).bp.1 q (aU O U Y V).out).getD i Tb.zero).name))) (nmF (aU O U Y V).bp.1 (itP (aU O U Y V).bp.1 q (aU O U Y V).out) i)))]) kq kZ) aA gw)⟩
 . omega
 . omega
 iterate 24 kernel_rfl
 apply qf (decide_eq_false hb10);refine aK 10 kq kq ?_;apply ac;apply ac;refine ao ?_;apply ab;refine zZ (fun _=>[(2,.ptr 5 0),(4,.ptr 4 0),(12,.imm ((itP (aM O U Y V).bp.1 q (aM O U Y V).out).map Tb.v)),(19,.ptr 6 0)]) (fun _=>[.box (rH Z O U Y V),.map (ml V),.map (rU O U Y V),.arr 5 (lj O U Y V) 0,.box [.ptr 0 0],.box fk,.box [.map 7],.map (ay aa.str aa.bool (nmF (aM O U Y V).bp.1 (itP (aM O U Y V).bp.1 q (aM O U Y V).out) i))]) ?_ ?_;apply zV 1;refine qH (zH (itP (aU O U Y V).bp.1 q (aU O U Y V).out) [.box (u7 Z O U Y V),.map (oi V),.map (u9 O U Y V),.arr 5 (th O U Y V) 0,.box [.ptr 0 0],.box ig,.box [.map 7],.map (ay aa.str aa.bool (nmF (aU O U Y V).bp.1 (itP (aU O U Y V).bp.1 q (aU O U Y V).out) i))] oq gw) kq ?_;apply qr 1;by_cases hb11:(itP (aU O U Y V).bp.1 q (aU O U Y V).out).any (dC (aU O U Y V).bp.1 (nmF (aU O U Y V).bp.1 (itP (aU O U Y V).bp.1 q (aU O U Y V).out) i))=true;refine qH (HQ Z (tmA V) (aU O U Y V).bp (nmF (aU O U Y V).bp.1 (itP (aU O U Y V).bp.1 q (aU O U Y V).out) i) (itP (aU O U Y V).bp.1 q (aU O U Y V).out) oq (Ky hf q) hb11) kq ?_;refine zR 1 (mT [(22,.imm (((itP (aM O U Y V).bp.1 q (aM O U Y V).out).filter (fun t=>!dC (aM O U Y V).bp.1 (nmF (aM O U Y V).bp.1 (itP (aM O U Y V).bp.1 q (aM O U Y V).out) i) t)).map Tb.v))] [19]) (mH [] [.arr 13 (((itP (aM O U Y V).bp.1 q (aM O U Y V).out).filter (fun t=>!dC (aM O U Y V).bp.1 (nmF (aM O U Y V).bp.1 (itP (aM O U Y V).bp.1 q (aM O U Y V).out) i) t)).map Tb.v++List.replicate ((itP (aM O U Y V).bp.1 q (aM O U Y V).out).length - ((itP (aM O U Y V).bp.1 q (aM O U Y V).out).filter (fun t=>!dC (aM O U Y V).bp.1 (nmF (aM O U Y V).bp.1 (itP (aM O U Y V).bp.1 q (aM O U Y V).out) i) t)).length) (iA 13)) (bif Nat.beq ((itP (aM O U Y V).bp.1 q (aM O U Y V).out).filter (fun t=>!dC (aM O U Y V).bp.1 (nmF (aM O U Y V).bp.1 (itP (aM O U Y V).bp.1 q (aM O U Y V).out) i) t)).length 0 then 0 else (((itP (aM O U Y V).bp.1 q (aM O U Y V).out).filter (fun t=>!dC (aM O U Y V).bp.1 (nmF (aM O U Y V).bp.1 (itP (aM O U Y V).bp.1 q (aM O U Y V).out) i) t)).map Tb.v++List.replicate ((itP (aM O U Y V).bp.1 q (aM O U Y V).out).length - ((itP (aM O U Y V).bp.1 q (aM O U Y V).out).filter (fun t=>!dC (aM O U Y V).bp.1 (nmF (aM O U Y V).bp.1 (itP (aM O U Y V).bp.1 q (aM O U Y V).out) i) t)).length) (iA 13)).length)]) ?_ ?_;apply zV 1;refine qy (aj (l:=((itP (aM O U Y V).bp.1 q (aM O U Y V).out).filter (fun t=>!dC (aM O U Y V).bp.1 (nmF (aM O U Y V).bp.1 (itP (aM O U Y V).bp.1 q (aM O U Y V).out) i) t))) (enc:=Tb.v) kq cD) ?_ ?_ ?_;apply qr 1;refine qy (aj (l:=(itP (aM O U Y V).bp.1 q (aM O U Y V).out)) (enc:=Tb.v) kq cD) ?_ ?_ ?_;refine zR 2 (mT [(18,.bool (decide (((((itP (aM O U Y V).bp.1 q (aM O U Y V).out).filter (fun t=>!dC (aM O U Y V).bp.1 (nmF (aM O U Y V).bp.1 (itP (aM O U Y V).bp.1 q (aM O U Y V).out) i) t)).length:Nat):Int)<(((itP (aM O U Y V).bp.1 q (aM O U Y V).out).length:Nat):Int))))] [12]) id ?_ ?_;apply qo;apply qr 2;apply qe;refine ag ?_;refine ab ⟨.inl (q+1),?_,?_,⟨⟨kq,kq,(Eq.trans (b:=.imm (((itP (aU O U Y V).bp.1 q (aU O U Y V).out).filter (fun t=>!dC (aU O U Y V).bp.1 (nmF (aU O U Y V).bp.1 (itP (aU O U Y V).bp.1 q (aU O U Y V).out) i) t)).map Tb.v)) kq (by (rw [show i=(itP (aU O U Y V).bp.1 q (aU O U Y V).out).length by omega]) <;> rfl)),(Eq.trans (b:=.bool (decide (((((itP (aU O U Y V).bp.1 q (aU O U Y V).out).filter (fun t=>!dC (aU O U Y V).bp.1 (nmF (aU O U Y V).bp.1 (itP (aU O U Y V).bp.1 q (aU O U Y V).out) i) t)).length:Nat):Int)<(((itP (aU O U Y V).bp.1 q (aU O U Y V).out).length:Nat):Int)))) kq (by exact congrArg aa.bool (P9 (DT aq)))),trivial⟩,aA,by simp,(Eq.trans (b:=[.box (u7 Z O U Y V),.map (oi V),.map (u9 O U Y V),.arr 5 (th O U Y V) 0,.box [.ptr 0 0],.box ig]) kq (by (try dsimp only);all_goals kernel_rfl)),gw⟩⟩
 . try dsimp only
   have hlt:=DT (l:=(itP (aU O U Y V).bp.1 q (aU O U Y V).out)) aq;rw [show i=(itP (aU O U Y V).bp.1 q (aU O U Y V).out).length by omega,Id] at hlt;omega
 . try dsimp only
   all_goals trivial
 iterate 11 kernel_rfl
 refine qH (QL Z (tmA V) (aU O U Y V).bp (nmF (aU O U Y V).bp.1 (itP (aU O U Y V).bp.1 q (aU O U Y V).out) i) (itP (aU O U Y V).bp.1 q (aU O U Y V).out) oq (Ky hf q) hb11) kq ?_;apply zR 1 (mT [(22,.own 8 0 (itP (aM O U Y V).bp.1 q (aM O U Y V).out).length)] [19]) (mH [] [.arr 13 ((itP (aM O U Y V).bp.1 q (aM O U Y V).out).map Tb.v) 0]);apply zV 1;refine qy (cu (o:=8) (off:=0) (len:=((itP (aM O U Y V).bp.1 q (aM O U Y V).out).length)) (sz:=13) (es:=((itP (aM O U Y V).bp.1 q (aM O U Y V).out).map Tb.v)) (fr:=0) kq cD kq zq) ?_ ?_ ?_;apply qr 1;refine qy (aj (l:=(itP (aM O U Y V).bp.1 q (aM O U Y V).out)) (enc:=Tb.v) kq cD) ?_ ?_ ?_;refine zR 2 (fun _=>[(2,.ptr 5 0),(4,.ptr 4 0),(18,.bool (decide ((((itP (aM O U Y V).bp.1 q (aM O U Y V).out).length:Nat):Int)<(((itP (aM O U Y V).bp.1 q (aM O U Y V).out).length:Nat):Int)))),(22,.own 8 0 (itP (aM O U Y V).bp.1 q (aM O U Y V).out).length)]) (fun _=>[.box (rH Z O U Y V),.map (ml V),.map (rU O U Y V),.arr 5 (lj O U Y V) 0,.box [.ptr 0 0],.box fk,.box [.map 7],.map (ay aa.str aa.bool (nmF (aM O U Y V).bp.1 (itP (aM O U Y V).bp.1 q (aM O U Y V).out) i)),.arr 13 ((itP (aM O U Y V).bp.1 q (aM O U Y V).out).map Tb.v) 0]) ?_ ?_;refine Ai [0,1,2,3,4,5,8] [(2,.ptr 5 0),(4,.ptr 4 0),(18,.bool (decide ((((itP (aM O U Y V).bp.1 q (aM O U Y V).out).length:Nat):Int)<(((itP (aM O U Y V).bp.1 q (aM O U Y V).out).length:Nat):Int)))),(22,.own 6 0 (itP (aM O U Y V).bp.1 q (aM O U Y V).out).length)] [.box (rH Z O U Y V),.map (ml V),.map (rU O U Y V),.arr 5 (lj O U Y V) 0,.box [.ptr 0 0],.box fk,.arr 13 ((itP (aM O U Y V).bp.1 q (aM O U Y V).out).map Tb.v) 0] dq mZ mZ mZ mZ ?_;refine zZ (fun _=>[(2,.ptr 5 0),(4,.ptr 4 0),(18,.bool (decide ((((itP (aM O U Y V).bp.1 q (aM O U Y V).out).length:Nat):Int)<(((itP (aM O U Y V).bp.1 q (aM O U Y V).out).length:Nat):Int)))),(22,.own 6 0 (itP (aM O U Y V).bp.1 q (aM O U Y V).out).length)]) (fun _=>[.box (rH Z O U Y V),.map (ml V),.map (rU O U Y V),.arr 5 (lj O U Y V) 0,.box [.ptr 0 0],.box fk,.arr 13 ((itP (aM O U Y V).bp.1 q (aM O U Y V).out).map Tb.v) 0]) ?_ ?_;apply qo;apply qr 2;apply qe;refine ag ?_;refine ab ⟨.inr (),?_,?_,⟨⟨kq,kq,(hT (by rw [<- DE (by rw [<- show i=(itP (aU O U Y V).bp.1 q (aU O U Y V).out).length by omega];assumption)]) kq),(Eq.trans (b:=.bool (decide ((((itP (aU O U Y V).bp.1 q (aU O U Y V).out).length:Nat):Int)<(((itP (aU O U Y V).bp.1 q (aU O U Y V).out).length:Nat):Int)))) kq (by exact congrArg aa.bool (PY (Nat.lt_irrefl _)))),trivial⟩,aA,by simp,(Eq.trans (b:=[.box (u7 Z O U Y V),.map (oi V),.map (u9 O U Y V),.arr 5 (th O U Y V) 0,.box [.ptr 0 0],.box ig,.arr 13 ((itP (aU O U Y V).bp.1 q (aU O U Y V).out).map Tb.v) 0]) kq (by (try dsimp only);rw [<- DE (by rw [<- show i=(itP (aU O U Y V).bp.1 q (aU O U Y V).out).length by omega];assumption)])),gw⟩⟩
 . try dsimp only
   simp
 . try dsimp only
   all_goals trivial
 iterate 34 kernel_rfl
 have _:=hz_;refine zZ (fun _=>[(2,.ptr 5 0),(4,.ptr 4 0),(12,.own 6 0 (oX O U Y V).length),(18,.bool false)]) (fun _=>[.box (rH Z O U Y V),.map (ml V),.map (rU O U Y V),.arr 5 (lj O U Y V) 0,.box [.ptr 0 0],.box fk,.arr 13 ((oX O U Y V).map Tb.v) 0]) ?_ ?_;apply ai;apply zW 1 (mT [(120,.bool false)] [18]) id;refine iu kq kq ?_;refine aK 8 kq kq ?_;apply ac;apply ac;refine ao ?_;apply ab;refine zZ (fun _=>[(2,.ptr 5 0),(4,.ptr 4 0),(12,.own 6 0 (oX O U Y V).length)]) (fun _=>[.box (rH Z O U Y V),.map (ml V),.map (rU O U Y V),.arr 5 (lj O U Y V) 0,.box [.ptr 0 0],.box fk,.arr 13 ((oX O U Y V).map Tb.v) 0]) ?_ ?_;apply zV 1;refine lH (args:=[.own 6 0 (itP (aU O U Y V).bp.1 9 (aU O U Y V).out).length,.fn (.func 34) [] []]) (v:=.tup []) (h':=[.box (u7 Z O U Y V),.map (oi V),.map (u9 O U Y V),.arr 5 (th O U Y V) 0,.box [.ptr 0 0],.box ig,.arr 13 ((jL (itP (aU O U Y V).bp.1 9 (aU O U Y V).out).length (itP (aU O U Y V).bp.1 9 (aU O U Y V).out)).map Tb.v) 0]) [.box (u7 Z O U Y V),.map (oi V),.map (u9 O U Y V),.arr 5 (th O U Y V) 0,.box [.ptr 0 0],.box ig,.arr 13 ((itP (aU O U Y V).bp.1 9 (aU O U Y V).out).map Tb.v) 0] kq kq kq kq kq (iK [6] (NS (itP (aU O U Y V).bp.1 9 (aU O U Y V).out) (by have:=r8 (O:=O) (U:=U) (Y:=Y) (V:=V) 9;omega)) rfl dq (by simp [aC,aa.bel,Ty.v,Ex.v,Ct.v,Co.v,Rf.v,Sm.v,Tb.v_cs,Sc.v,Md.v,Pb.v,Ls.v,-List.map_take,-List.map_drop,-List.map_append]) (by simp [am.belO,aC,aa.bel,Ty.v,Ex.v,Ct.v,Co.v,Rf.v,Sm.v,Tb.v_cs,Sc.v,Md.v,Pb.v,Ls.v,-List.map_take,-List.map_drop,-List.map_append]) Gi rfl Gi rfl Gi) ?_;refine zN id (mO [(6,.arr 13 ((jL (oX O U Y V).length (oX O U Y V)).map Tb.v) 0)]) ?_ ?_;apply ai;refine zD cxM kq ax ?_;apply qu 12;refine bY kq ⟨kq,?_⟩;refine zE (fun _=>[(2,.ptr 5 0),(3,.own 3 0 (aM O U Y V).bp.2.length)]) (fun _=>[.box (rH Z O U Y V),.map (ml V),.map (rU O U Y V),.arr 5 (lj O U Y V) 0,.box [.ptr 0 0],.box [.imm (cU Z),.own 6 0 (oX O U Y V).length],.arr 13 ((jL (oX O U Y V).length (oX O U Y V)).map Tb.v) 0]) ?_ ?_;refine aJ kq ?_;refine cd (l:=[.agg [.imm (cU Z),.own 6 0 (itP (aU O U Y V).bp.1 9 (aU O U Y V).out).length],.own 3 0 (aU O U Y V).bp.2.length]) (.inr rfl) kq ?_
 . simp [aZ,aa.frz,aN,gT,Sc.v,j6,Ty.v,Ex.v,Ct.v,Co.v,Rf.v,Sm.v,Tb.v_cs,Sc.v,Md.v,Pb.v,Ls.v]
 iterate 45 kernel_rfl
theorem Gf {l:List Co} {n:List UInt8} {k:Nat} (hk:k<l.length) (ha:∀ i,i<k->¬ (l.getD i Co.zero).name=n) (h:(l.getD k Co.zero).name=n):((k:Nat):Int)=gd l n :=
 cO (p:=fun t:Co=>t.name==n) Co.zero hk (fun i hi=>by simpa using ha i hi) (by simpa using h)
theorem Fv {l:List Co} {n:List UInt8} (ha:∀ i,i<l.length->¬ (l.getD i Co.zero).name=n):-1=gd l n :=
 cR (p:=fun t:Co=>t.name==n) Co.zero (fun i hi=>by simpa using ha i hi)
theorem BW {l:List (List UInt8)} {s:List UInt8} {k:Nat} (hk:k<l.length) (ha:∀ i,i<k->¬ l.getD i []=s) (h:l.getD k []=s):((k:Nat):Int)=dJ l s:=pK hk (fun i hi e=>ha i hi e.symm) h.symm
theorem Bw {l:List (List UInt8)} {s:List UInt8} (ha:∀ i,i<l.length->¬ l.getD i []=s):-1=dJ l s:=pf (fun i hi e=>ha i hi e.symm)
theorem BQ {l:List Co} {n:List UInt8} (h:gd l n<0):aW l n=false:=by rcases mB l n with q|q;exact q.2;omega
theorem yf {l:List Co} {n:List UInt8} (h:¬ gd l n<0):aW l n=true:=by rcases mB l n with q|q;omega;exact q.2.2.1
theorem UG {l:List Co} {n:List UInt8} (h:gd l n >= 0):aW l n=true:=yf oq
theorem Tz {l:List Co} {n:List UInt8} (h:¬ gd l n >= 0):aW l n=false:=BQ oq
theorem ES {l:List Co} {n:List UInt8} (h:¬ gd l n<0):l.getD (gd l n).toNat Co.zero=cp l n:=by rcases mB l n with q|q;omega;exact q.2.2.2
theorem U1 {l:List Co} {n:List UInt8} (h:¬ gd l n<0):(gd l n).toNat<l.length:=by rcases mB l n with q|q;omega;exact q.2.1
theorem Ic {l:List Co} {n:List UInt8} (h:¬ gd l n<0):gd l n<((l.length:Nat):Int):=by have:=U1 h;omega
theorem yX {p:Prop} (h:p:=by simp [am.belO,aa.bel,aC]):p:=h
theorem qx (l:List Co) (n:List UInt8) (hn:l.length<1000000000):ae cx 91 [.imm (l.map Co.v),.str n] (.int .i64 (gd l n)):=by
 refine fI 20 0 [(ResultVar.tmp 4)] Tryz.func91 kq ?_;refine zZ (fun _=>[(0,.imm (l.map Co.v)),(1,.str n)]) (fun _=>[]) ?_ ?_;apply zW 1 id id;apply ai;apply zW 1 (mU [(5,.int .i64 0)]) id;apply qB 0;refine aT (σ:=Nat) (fun k=>[(0,.imm (l.map Co.v)),(1,.str n),(5,.int .i64 ((k:Nat):Int))]) (fun k=>[]) (fun k=>k<=l.length/\∀ i,i<k->¬ (l.getD i Co.zero).name=n) (fun k=>l.length - k) 0 kq (by exact ⟨Nat.zero_le _,fun i h=>absurd h (Nat.not_lt_zero i)⟩) (fg kq kq aA yX) ?_;rintro k ⟨hk,ha⟩;apply ai;apply zV 2;refine qy (aj (l:=l) (enc:=Co.v) kq em) ?_ ?_ ?_;apply zR 1 (mU [(9,.bool (decide (((k:Nat):Int)<((l.length:Nat):Int))))]) id;by_cases hb1:((k:Nat):Int)<((l.length:Nat):Int);apply qt (decide_eq_true hb1);apply qK;apply zZ (mT [] [9]) id;apply ai;apply qB 1;apply zV 2;refine qy ((au (k:=.i64) (l:=l) (enc:=Co.v) (i:=((k:Nat):Int)) Co.zero kq em j5 (fun _=>rfl) oq oq).trans (congrArg (fun cs=>some (aa.pimm cs 0,_)) (de (l.getD k Co.zero)))) ?_ ?_ ?_;refine zR 4 (fun _=>[(0,.imm (l.map Co.v)),(1,.str n),(5,nI k),(18,.bool ((l.getD k Co.zero).name==n))]) (fun _=>[]) ?_ ?_;by_cases hb2:(l.getD k Co.zero).name=n;apply qt (beq_iff_eq.2 hb2);apply zV 2;refine qT ?_ ?_;apply iR;apply aR;apply aR;apply iR;apply aR;refine dm (n:=((k:Nat):Int)) (.inr rfl) kq ?_
 rotate_left
 iterate 3 kernel_rfl
 apply qf (beq_eq_false_iff_ne.2 hb2);refine qk ?_ ?_;refine ag ?_;apply ab;apply zZ (mT [] [18]) id;apply qo;apply qr 1;refine qy (az (a:=((k:Nat):Int)) (b:=1) kq oq oq) ?_ ?_ ?_;apply qr 1;apply qe;refine ab ⟨k+1,?_,?_,(fg kq kq aA yX)⟩
 . omega
 . refine ⟨by omega,fun i hi=>?_⟩;rcases Nat.lt_succ_iff_lt_or_eq.1 hi with h|h
   . exact ha i h
   . subst h;assumption
 iterate 19 kernel_rfl
 apply qf (decide_eq_false hb1);refine aK 0 kq kq ?_;apply ac;apply ac;refine ao ?_;apply ab;refine zZ (fun _=>[]) (fun _=>[]) ?_ ?_;apply zV 1;refine qT ?_ ?_;refine dm (n:=(-1)) (.inr rfl) kq ?_
 rotate_left
 iterate 15 kernel_rfl
 all_goals
  first|exact Gf oq ha aq|exact Fv (fun i hi=>ha i oq)
theorem yT (l:List (List UInt8)) (n:List UInt8) (hn:l.length<1000000000):ae cx 37 [.imm (l.map aa.str),.str n] (.int .i64 (dJ l n)):=by
 refine fI 19 0 [(ResultVar.tmp 4)] Tryz.func37 kq ?_;refine zZ (fun _=>[(0,.imm (l.map aa.str)),(1,.str n)]) (fun _=>[]) ?_ ?_;apply zW 1 id id;apply ai;apply zW 1 (mU [(5,.int .i64 0)]) id;apply qB 0;refine aT (σ:=Nat) (fun k=>[(0,.imm (l.map aa.str)),(1,.str n),(5,.int .i64 ((k:Nat):Int))]) (fun k=>[]) (fun k=>k<=l.length/\∀ i,i<k->¬ (l.getD i [])=n) (fun k=>l.length - k) 0 kq (by exact ⟨Nat.zero_le _,fun i h=>absurd h (Nat.not_lt_zero i)⟩) (fg kq kq aA yX) ?_;rintro k ⟨hk,ha⟩;apply ai;apply zV 2;refine qy (aj (l:=l) (enc:=aa.str) kq a6) ?_ ?_ ?_;apply zR 1 (mU [(9,.bool (decide (((k:Nat):Int)<((l.length:Nat):Int))))]) id;by_cases hb1:((k:Nat):Int)<((l.length:Nat):Int);apply qt (decide_eq_true hb1);apply qK;apply zZ (mT [] [9]) id;apply ai;apply qB 1;apply zV 2;refine qy (au (k:=.i64) (l:=l) (enc:=aa.str) (i:=((k:Nat):Int)) [] kq a6 ty9 (fun _=>rfl) oq oq) ?_ ?_ ?_;refine zR 3 (fun _=>[(0,.imm (l.map aa.str)),(1,.str n),(5,nI k),(17,.bool ((l.getD k [])==n))]) (fun _=>[]) ?_ ?_;by_cases hb2:(l.getD k [])=n;apply qt (beq_iff_eq.2 hb2);apply zV 2;refine qT ?_ ?_;apply iR;apply aR;apply aR;apply iR;apply aR;refine dm (n:=((k:Nat):Int)) (.inr rfl) kq ?_
 rotate_left
 iterate 3 kernel_rfl
 apply qf (beq_eq_false_iff_ne.2 hb2);refine qk ?_ ?_;refine ag ?_;apply ab;apply zZ (mT [] [17]) id;apply qo;apply qr 1;refine qy (az (a:=((k:Nat):Int)) (b:=1) kq oq oq) ?_ ?_ ?_;apply qr 1;apply qe;refine ab ⟨k+1,?_,?_,(fg kq kq aA yX)⟩
 . omega
 . refine ⟨by omega,fun i hi=>?_⟩;rcases Nat.lt_succ_iff_lt_or_eq.1 hi with h|h
   . exact ha i h
   . subst h;assumption
 iterate 19 kernel_rfl
 apply qf (decide_eq_false hb1);refine aK 0 kq kq ?_;apply ac;apply ac;refine ao ?_;apply ab;refine zZ (fun _=>[]) (fun _=>[]) ?_ ?_;apply zV 1;refine qT ?_ ?_;refine dm (n:=(-1)) (.inr rfl) kq ?_
 rotate_left
 iterate 15 kernel_rfl
 all_goals
  first|exact BW oq ha aq|exact Bw (fun i hi=>ha i oq)
theorem E0 {p:Prop} (h:p:=by first|omega|exact Ic aq|(rw [ES aq];exact hz _)):p:=h
abbrev yq (t:Tb):=gd t.cols (t.key.getD 0 [])
theorem xJ (t:Tb) (w:Ty) (hc:t.cols.length<1000000000) (hz:∀ n,(cp t.cols n).type.sz<100000000):ae cx 94 [Tb.v t,Ty.v w] (.bool (tgt t w)):=by
 refine fI 29 0 [(ResultVar.tmp 4)] Tryz.func94 kq ?_;refine zZ (fun _=>[(0,Tb.v t),(1,Ty.v w)]) (fun _=>[]) ?_ ?_;apply zW 3 (mT [(2,.ptr 0 0),(3,.ptr 1 0)] [0,1]) (mH [] [.box (Tb.cs t),w.bx]);apply ai;apply zV 2;refine qy (aj (l:=t.key) (enc:=aa.str) kq a6) ?_ ?_ ?_;apply zR 1 (mU [(10,.bool (((t.key.length:Nat):Int) != 1))]) id;by_cases hb1:((t.key.length:Nat):Int)=1;refine qf (x:=(((t.key.length:Nat):Int) != 1)) (bne_eq_false_iff_eq.2 hb1) ?_ ?_;apply qK;apply zZ (mT [] [10]) id;apply ai;refine zD cxM kq ax ?_;apply qu 4;refine qd (au (k:=.i64) (l:=t.key) (enc:=aa.str) (i:=0) [] kq a6 ty9 (fun _=>rfl) E0 E0) ?_ ?_ ?_ ?_;apply qu 1;refine qQ (qx t.cols (t.key.getD 0 []) E0) bk bk bk kq ?_;apply qu 1;refine bY kq ⟨kq,?_⟩;refine zE (mU [(5,.int .i64 (yq t))]) id ?_ ?_;apply ai;refine zW 2 (fun _=>[(2,.ptr 0 0),(3,.ptr 1 0),(5,.int .i64 (yq t)),(19,.bool (decide ((yq t)<0)))]) (fun _=>[.box (Tb.cs t),w.bx]) ?_ ?_;by_cases hb2:(yq t)<0;apply qt (decide_eq_true hb2);apply zV 1;refine qT ?_ ?_;apply aR;refine aD (b:=false) (.inr rfl) kq ?_
 rotate_left
 iterate 3 kernel_rfl
 apply qf (decide_eq_false hb2);apply qK;apply zZ (mT [] [19]) id;apply ai;refine zD cxM kq ax ?_;apply qu 3;refine qd ((au (k:=.i64) (l:=t.cols) (enc:=Co.v) (i:=(yq t)) Co.zero kq em j5 (fun _=>rfl) E0 E0).trans (congrArg (fun cs=>some (aa.pimm cs 0,_)) (de (t.cols.getD (((yq t)).toNat) Co.zero)))) ?_ ?_ ?_ ?_;apply qu 3;refine qQ (gN ((t.cols.getD (((yq t)).toNat) Co.zero).type) w E0) bk bk bk kq ?_;apply qu 1;refine bY kq ⟨kq,?_⟩;refine zE (fun _=>[(6,.bool (((t.cols.getD (((yq t)).toNat) Co.zero).type).beq w))]) (fun _=>[.box (Tb.cs t),w.bx]) ?_ ?_;apply zV 2;refine qT ?_ ?_;refine aD (b:=(((t.cols.getD (((yq t)).toNat) Co.zero).type).beq w)) (.inr rfl) kq ?_
 rotate_left
 iterate 26 kernel_rfl
 refine qt (x:=(((t.key.length:Nat):Int) != 1)) (bne_iff_ne.2 hb1) ?_ ?_;apply zV 1;refine qT ?_ ?_;apply aR;refine aD (b:=false) (.inr rfl) kq ?_
 rotate_left
 iterate 10 kernel_rfl
 all_goals
  first|(rw [OA aq];done)|(rw [PA oq (by rw [BQ aq];decide)];done)|(rw [Ed oq (yf aq),ES aq];done)|(rw [Ed oq (yf aq),<- ES aq];assumption)
structure Tn (Z:List Sm) (O:List UInt8->Bool) (U:Ty->Bool) (Y:Ex->Int) (d:Dc):Prop where
 ok:d.ok
 hlow:∀ i,i<d.tab.cols.length->ae cx 89 [.str (d.tab.cols.getD i Co.zero).name] (.bool (O (d.tab.cols.getD i Co.zero).name))
 hsto:∀ i,i<d.tab.cols.length->ae cx 92 [.imm (Z.map Sm.v),(d.tab.cols.getD i Co.zero).type.v] (.bool (U (d.tab.cols.getD i Co.zero).type))
 hln:ae cx 89 [.str d.name] (.bool (O d.name))
 hchk:ae cx 90 [d.tab.chk.v] (.int .i64 (Y d.tab.chk))
section
variable {O:List UInt8->Bool} {U:Ty->Bool} {Y:Ex->Int} {fst:List UInt8->Option Tb} {d:Dc} {t:Tb} {cols:List Co} {s:Wr} {i:Nat}
end
theorem wk (h:af):∀ (a b:List aa),aN h (a++b)=aN h a++aN h b
 | [],b=>rfl
 | x::a,b=>by simp only [List.cons_append,aN,wk h a b]
structure OS (Z:List Sm) (O:List UInt8->Bool) (U:Ty->Bool) (Y:Ex->Int) (V:List Md):Prop where
 d:∀ i,i<V.length->∀ k,k<(V.getD i Md.zero).decls.length->Tn Z O U Y ((V.getD i Md.zero).decls.getD k Dc.zero)
theorem OS.ok {Z:List Sm} {O:List UInt8->Bool} {U:Ty->Bool} {Y:Ex->Int} {V:List Md} (h:OS Z O U Y V):∀ m∈V,∀ d∈m.decls,d.tab.ok:=by
 intro m hm d hd;obtain ⟨i,hi,rfl⟩:=List.getElem_of_mem hm;obtain ⟨k,hk,rfl⟩:=List.getElem_of_mem hd;have h1:=h.d i hi k (by rw [a7 _ _ _ hi];exact hk);rw [a7 _ _ _ hi] at h1;rw [a7 _ _ _ hk] at h1;exact h1.ok.t
section
variable {O:List UInt8->Bool} {U:Ty->Bool} {Y:Ex->Int} {V:List Md} {Z:List Sm} {i k:Nat}
def keep (l:List Tb) (t:Tb):Bool:=t.refs.all (fun r=>cY l r.tab)
theorem js {α β:Type} {P:List β} {L:List α} {f:α->β} {d:α} {j:Nat} (h:j<L.length):P++(L.take (j+1)).map f=(P++(L.take j).map f)++[f (L.getD j d)]:=by
 rw [cI L d j h,List.map_append,<- List.append_assoc];rfl
end
def mdX (d:Dc) (i:Nat):Dc:=⟨d.kind,d.name,d.sum,d.tab,10 * ((i:Nat):Int)+6,10 * ((i:Nat):Int),10 * ((i:Nat):Int)+9⟩
def mdS (ds:List Dc) (l:List Int):Nat->List Dc×List Dc
 | 0=>([],[])
 | i+1=>if ah l (i+7) 2=0 then (if ah l (i+8) 9=0 then ((mdS ds l i).1++[mdX (ds.getD i Dc.zero) i],(mdS ds l i).2++[mdX (ds.getD i Dc.zero) i]) else ((mdS ds l i).1++[mdX (ds.getD i Dc.zero) i],(mdS ds l i).2))
  else (if ah l (i+8) 9=0 then ((mdS ds l i).1,(mdS ds l i).2++[mdX (ds.getD i Dc.zero) i]++[mdX (ds.getD i Dc.zero) i]) else ((mdS ds l i).1,(mdS ds l i).2++[mdX (ds.getD i Dc.zero) i]))
def lN (ds:List Dc) (l:List Int):List Md:=[⟨[97,112,112],(mdS ds l ds.length).1⟩,⟨[98,97,115,101],(mdS ds l ds.length).2⟩]
section
variable {ds:List Dc} {l:List Int} {i:Nat}
theorem Vl (h1:ah l (i+7) 2=0) (h2:ah l (i+8) 9=0):mdS ds l (i+1)=((mdS ds l i).1++[mdX (ds.getD i Dc.zero) i],(mdS ds l i).2++[mdX (ds.getD i Dc.zero) i]):=by rw [mdS,if_pos h1,if_pos h2]
theorem Tc (h1:ah l (i+7) 2=0) (h2:¬ ah l (i+8) 9=0):mdS ds l (i+1)=((mdS ds l i).1++[mdX (ds.getD i Dc.zero) i],(mdS ds l i).2):=by rw [mdS,if_pos h1,if_neg h2]
theorem Uz (h1:¬ ah l (i+7) 2=0) (h2:ah l (i+8) 9=0):mdS ds l (i+1)=((mdS ds l i).1,(mdS ds l i).2++[mdX (ds.getD i Dc.zero) i]++[mdX (ds.getD i Dc.zero) i]):=by rw [mdS,if_neg h1,if_pos h2]
theorem Vv (h1:¬ ah l (i+7) 2=0) (h2:¬ ah l (i+8) 9=0):mdS ds l (i+1)=((mdS ds l i).1,(mdS ds l i).2++[mdX (ds.getD i Dc.zero) i]):=by rw [mdS,if_neg h1,if_neg h2]
end
theorem xu (ds:List Dc) (l:List Int):∀ i,(mdS ds l i).1.length<=i/\(mdS ds l i).2.length<=2 * i
 | 0=>⟨Nat.le_refl _,Nat.le_refl _⟩
 | i+1=>by
  have h:=xu ds l i;rw [mdS];split <;> split <;> simp <;> omega
theorem ET (ds:List Dc) (l:List Int):∀ i d,(d∈(mdS ds l i).1\/d∈(mdS ds l i).2)->∃ j,j<i/\d=mdX (ds.getD j Dc.zero) j
 | 0,d,h=>by rcases h with h|h <;> cases h
 | i+1,d,h=>by
  have key:(d∈(mdS ds l i).1\/d∈(mdS ds l i).2)\/d=mdX (ds.getD i Dc.zero) i:=by
   rw [mdS] at h;split at h <;> split at h <;> simp only [List.mem_append,List.mem_singleton] at h <;> rcases h with h|h <;> (try rcases h with h|h) <;> (try rcases h with h|h) <;> simp_all
  rcases key with q|q
  . obtain ⟨j,h1,h2⟩:=ET ds l i d q;exact ⟨j,by omega,h2⟩
  . exact ⟨i,by omega,q⟩
theorem LZ (l:List Int) (q:Nat) (H:af) (hl:jU l) (h:ah l q 2=0):av cx 15 [.imm (l.map (.int .i64)),.int .i64 ((q:Nat):Int),.int .i64 2] H (fun v h'=>v=.int .i64 0/\h'=H):=by
 have:=bu l q 2 hl dq;rw [h] at this;exact wG this (by simp [aN,aa.frz]) (by simp [aC,aa.bel]) ⟨rfl,by simp [db,aF,aa.owns]⟩
theorem KU (l:List Int) (q:Nat) (H:af) (hl:jU l) (h:¬ ah l q 2=0):av cx 15 [.imm (l.map (.int .i64)),.int .i64 ((q:Nat):Int),.int .i64 2] H (fun v h'=>v=.int .i64 1/\h'=H):=by
 have:=bu l q 2 hl dq;have hb:=bb l q 2 dq;rw [show ah l q 2=1 by omega] at this;exact wG this (by simp [aN,aa.frz]) (by simp [aC,aa.bel]) ⟨rfl,by simp [db,aF,aa.owns]⟩
abbrev Hy (ds:List Dc)(i:Nat):List aa:=[.int .i64 ((ds.getD i Dc.zero).kind),.str (ds.getD i Dc.zero).name,.str (ds.getD i Dc.zero).sum.name,.imm ((ds.getD i Dc.zero).sum.ctors.map Ct.v),.str (ds.getD i Dc.zero).tab.name,.imm ((ds.getD i Dc.zero).tab.cols.map Co.v),.imm ((ds.getD i Dc.zero).tab.key.map aa.str),.imm ((ds.getD i Dc.zero).tab.refs.map Rf.v),.int .i64 ((ds.getD i Dc.zero).tab.chk.kind),.str (ds.getD i Dc.zero).tab.chk.name,.int .i64 ((ds.getD i Dc.zero).tab.chk.n),.str (ds.getD i Dc.zero).tab.chk.s,.imm ((ds.getD i Dc.zero).tab.chk.names.map aa.str),.imm ((ds.getD i Dc.zero).tab.chk.binds.map aa.str),.imm ((ds.getD i Dc.zero).tab.chk.kids.map Ex.enc),.int .i64 ((ds.getD i Dc.zero).tab.chk.pos),.int .i64 ((ds.getD i Dc.zero).tab.chk.fin),.imm [],.bool false,.int .i64 0,.str [],.int .i64 0,.imm [],.imm [],.int .i64 0,.str [],.int .i64 0,.str [],.imm [],.imm [],.imm [],.int .i64 0,.int .i64 0,.imm [],.int .i64 ((((10 * i)+6):Nat):Int),.int .i64 (((10 * i):Nat):Int),.int .i64 ((((10 * i)+9):Nat):Int)]
abbrev t8 (ds:List Dc)(i:Nat):=(Dc.mk ((ds.getD i Dc.zero).kind) ((ds.getD i Dc.zero).name) ((ds.getD i Dc.zero).sum) ((ds.getD i Dc.zero).tab) ((((10 * i)+6):Nat):Int) (((10 * i):Nat):Int) ((((10 * i)+9):Nat):Int))
abbrev QV (ds:List Dc)(i:Nat):List aa:=[.int .i64 ((ds.getD i Dc.zero).kind),.str (ds.getD i Dc.zero).name,.str (ds.getD i Dc.zero).sum.name,.imm ((ds.getD i Dc.zero).sum.ctors.map Ct.v),.str (ds.getD i Dc.zero).tab.name,.imm ((ds.getD i Dc.zero).tab.cols.map Co.v),.imm ((ds.getD i Dc.zero).tab.key.map aa.str),.imm ((ds.getD i Dc.zero).tab.refs.map Rf.v),.int .i64 ((ds.getD i Dc.zero).tab.chk.kind),.str (ds.getD i Dc.zero).tab.chk.name,.int .i64 ((ds.getD i Dc.zero).tab.chk.n),.str (ds.getD i Dc.zero).tab.chk.s,.imm ((ds.getD i Dc.zero).tab.chk.names.map aa.str),.imm ((ds.getD i Dc.zero).tab.chk.binds.map aa.str),.imm ((ds.getD i Dc.zero).tab.chk.kids.map Ex.enc),.int .i64 ((ds.getD i Dc.zero).tab.chk.pos),.int .i64 ((ds.getD i Dc.zero).tab.chk.fin),.imm [],.bool false,.int .i64 0,.str [],.int .i64 0,.imm [],.imm [],.int .i64 0,.str [],.int .i64 0,.str [],.imm [],.imm [],.imm [],.int .i64 0,.int .i64 0,.imm [],nI (((10 * i)+6)),nI (10 * i),nI (((10 * i)+9))]
abbrev Lp (ds:List Dc)(l:List Int)(i:Nat):List aa:=[.agg [.str [97,112,112],.own 1 0 (mdS ds l i).1.length],.agg [.str [98,97,115,101],.own 2 0 (mdS ds l i).2.length]]
abbrev E7 (ds:List Dc)(l:List Int)(i:Nat):List aa:=[.agg [.str [97,112,112],.imm ((mdS ds l i).1.map Dc.v)],.agg [.str [98,97,115,101],.imm ((mdS ds l i).2.map Dc.v)]]
abbrev d4 (ds:List Dc)(i:Nat):=(ds.getD i Dc.zero)
abbrev Mj (ds:List Dc)(l:List Int)(i:Nat):List am:=[.arr 2 (Lp ds l i) 0,.arr 37 ((mdS ds l i).1.map Dc.v) 0,.arr 37 ((mdS ds l i).2.map Dc.v) 0,.box (Hy ds i)]
abbrev NH :List aa:=[.agg [.str [97,112,112],.full []],.agg [.str [98,97,115,101],.full []]]
abbrev Ue (ds:List Dc)(l:List Int)(i:Nat):List am:=[.arr 2 (E7 ds l i) 2,.arr 37 ((mdS ds l i).1.map Dc.v) ((mdS ds l i).1.map Dc.v).length,.arr 37 ((mdS ds l i).2.map Dc.v) ((mdS ds l i).2.map Dc.v).length]
abbrev qz (ds:List Dc)(l:List Int)(i:Nat):=((mdS ds l i).2++[(t8 ds i)])
abbrev EC (ds:List Dc)(l:List Int)(i:Nat):List aa:=[.str [98,97,115,101],.own 2 0 (mdS ds l i).2.length]
abbrev EI :List aa:=[.str [97,112,112],.own 1 0 0]
abbrev rm (l:List Int):=(l.map (aa.int .i64))
theorem Km {p:Prop} (h:p:=by simp [am.belO,aC,cw,aa.bel,Ty.v,Ex.v,Ct.v,Co.v,Rf.v,Sm.v,Tb.v_cs,Sc.v,Md.v,Pb.v,Ls.v,-List.map_take,-List.map_drop,-List.map_append]):p:=h
theorem bm {p:Prop} (h:p:=by first|omega|(simp;done)|(simp;omega)):p:=h
theorem TO {p:Prop} (h:p:=by simp [cQ,aF,aa.owns,Ty.v,Ex.v,Ct.v,Co.v,Rf.v,Sm.v,Tb.v_cs,Sc.v,Md.v,Pb.v,Ls.v,-List.map_take,-List.map_drop,-List.map_append]):p:=h
theorem wh (ds:List Dc) (l:List Int) (hn:ds.length<=20) (hl:jU l):ae cx 16 [.imm (ds.map Dc.v),.imm (l.map (aa.int .i64))] (.imm ((lN ds l).map Md.v)):=by
 refine fI 65 0 [(ResultVar.tmp 4)] Tryz.func16 kq ?_;refine zZ (fun _=>[(0,.imm (ds.map Dc.v)),(1,.imm (rm l))]) (fun _=>[]) ?_ ?_;apply zW 1 id id;apply zV 2;refine Wm (r:=(.full NH,[])) (q:=(.own 0 0 2,[.arr 2 NH 0])) kq kq kq kq ?_;apply zR 1 (mU [(5,.own 0 0 2)]) (mH [] [.arr 2 NH 0]);refine Ox 0 0 1 37 (sz:=2) (fr:=0) (es:=NH) (cs:=[.str [97,112,112],.full []]) [.agg EI,.agg [.str [98,97,115,101],.full []]] dq kq kq kq kq ?_;refine Ox 0 1 1 37 (sz:=2) (fr:=0) (es:=[.agg EI,.agg [.str [98,97,115,101],.full []]]) (cs:=[.str [98,97,115,101],.full []]) [.agg EI,.agg [.str [98,97,115,101],.own 2 0 0]] dq kq kq kq kq ?_;refine zZ id (fun _=>[.arr 2 [.agg EI,.agg [.str [98,97,115,101],.own 2 0 0]] 0,.arr 37 (([]:List (Dc)).map Dc.v) 0,.arr 37 (([]:List (Dc)).map Dc.v) 0]) ?_ ?_;apply ai;apply zW 1 (mU [(6,.int .i64 0)]) id;apply qB 0;refine aT (σ:=Nat) (fun i=>[(0,.imm (ds.map Dc.v)),(1,.imm (l.map (aa.int .i64))),(5,.own 0 0 2),(6,.int .i64 ((i:Nat):Int))]) (fun i=>[.arr 2 [.agg [.str [97,112,112],.own 1 0 (mdS ds l i).1.length],.agg [.str [98,97,115,101],.own 2 0 (mdS ds l i).2.length]] 0,.arr 37 ((mdS ds l i).1.map Dc.v) 0,.arr 37 ((mdS ds l i).2.map Dc.v) 0]) (fun i=>i<=ds.length) (fun i=>ds.length - i) 0 kq i3 (fg kq kq aA Km) ?_;rintro i hi;have hab:=xu ds l i;apply ai;apply zV 2;refine qy (aj (l:=ds) (enc:=Dc.v) kq gS) ?_ ?_ ?_;apply zR 1 (mU [(15,.bool (decide (((i:Nat):Int)<((ds.length:Nat):Int))))]) id;by_cases hb1:((i:Nat):Int)<((ds.length:Nat):Int);apply qt (decide_eq_true hb1);apply qK;apply zZ (mT [] [15]) id;apply ai;apply qB 1;apply zV 2;refine qy ((au (k:=.i64) (l:=ds) (enc:=Dc.v) (i:=((i:Nat):Int)) Dc.zero kq gS rV (fun _=>rfl) ar ar).trans (congrArg (fun cs=>some (aa.pimm cs 0,_)) (om (d4 ds i)))) ?_ ?_ ?_;apply zR 3 (mU [(7,.ptr 3 0)]) (mH [] [.box (Dc.cs (d4 ds i))]);apply zV 1;refine qy (AQ (a:=10) (b:=((i:Nat):Int)) kq ar ar) ?_ ?_ ?_;refine qy (az (a:=(((10 * i):Nat):Int)) (b:=6) kq ar ar) ?_ ?_ ?_;apply zR 2 id (mO [(3,.box [.int .i64 ((d4 ds i).kind),.str (d4 ds i).name,.str (d4 ds i).sum.name,.imm ((d4 ds i).sum.ctors.map Ct.v),.str (d4 ds i).tab.name,.imm ((d4 ds i).tab.cols.map Co.v),.imm ((d4 ds i).tab.key.map aa.str),.imm ((d4 ds i).tab.refs.map Rf.v),.int .i64 ((d4 ds i).tab.chk.kind),.str (d4 ds i).tab.chk.name,.int .i64 ((d4 ds i).tab.chk.n),.str (d4 ds i).tab.chk.s,.imm ((d4 ds i).tab.chk.names.map aa.str),.imm ((d4 ds i).tab.chk.binds.map aa.str),.imm ((d4 ds i).tab.chk.kids.map Ex.enc),.int .i64 ((d4 ds i).tab.chk.pos),.int .i64 ((d4 ds i).tab.chk.fin),.imm [],.bool false,.int .i64 0,.str [],.int .i64 0,.imm [],.imm [],.int .i64 0,.str [],.int .i64 0,.str [],.imm [],.imm [],.imm [],.int .i64 0,.int .i64 0,.imm [],nI (((10 * i)+6)),.int .i64 ((d4 ds i).pos),.int .i64 ((d4 ds i).fin)])]);apply zV 1;refine qy (AQ (a:=10) (b:=((i:Nat):Int)) kq ar ar) ?_ ?_ ?_;apply zR 2 id (mO [(3,.box [.int .i64 ((d4 ds i).kind),.str (d4 ds i).name,.str (d4 ds i).sum.name,.imm ((d4 ds i).sum.ctors.map Ct.v),.str (d4 ds i).tab.name,.imm ((d4 ds i).tab.cols.map Co.v),.imm ((d4 ds i).tab.key.map aa.str),.imm ((d4 ds i).tab.refs.map Rf.v),.int .i64 ((d4 ds i).tab.chk.kind),.str (d4 ds i).tab.chk.name,.int .i64 ((d4 ds i).tab.chk.n),.str (d4 ds i).tab.chk.s,.imm ((d4 ds i).tab.chk.names.map aa.str),.imm ((d4 ds i).tab.chk.binds.map aa.str),.imm ((d4 ds i).tab.chk.kids.map Ex.enc),.int .i64 ((d4 ds i).tab.chk.pos),.int .i64 ((d4 ds i).tab.chk.fin),.imm [],.bool false,.int .i64 0,.str [],.int .i64 0,.imm [],.imm [],.int .i64 0,.str [],.int .i64 0,.str [],.imm [],.imm [],.imm [],.int .i64 0,.int .i64 0,.imm [],nI (((10 * i)+6)),nI (10 * i),.int .i64 ((d4 ds i).fin)])]);apply zV 1;refine qy (AQ (a:=10) (b:=((i:Nat):Int)) kq ar ar) ?_ ?_ ?_;refine qy (az (a:=(((10 * i):Nat):Int)) (b:=9) kq ar ar) ?_ ?_ ?_;refine zR 2 (fun _=>[(0,.imm (ds.map Dc.v)),(1,.imm (rm l)),(5,.own 0 0 2),(6,nI i),(7,.ptr 3 0)]) (fun _=>[.arr 2 (Lp ds l i) 0,.arr 37 ((mdS ds l i).1.map Dc.v) 0,.arr 37 ((mdS ds l i).2.map Dc.v) 0,.box (QV ds i)]) ?_ ?_;apply zV 2;refine qy (az (a:=((i:Nat):Int)) (b:=7) kq ar ar) ?_ ?_ ?_;by_cases hb2:ah l (i+7) 2=0;refine lH (args:=[.imm (rm l),.int .i64 (((i+7):Nat):Int),.int .i64 2]) (v:=.int .i64 0) (h':=(Mj ds l i)) (Mj ds l i) kq kq kq kq kq (LZ l (i+7) _ hl hb2) ?_;apply zR 1 (mU [(8,.int .i64 0)]) id;apply ai;refine zD cxM kq ax ?_;apply qu 9;refine qD (aX (o:=1) (len:=((mdS ds l i).1.length)) (l:=(mdS ds l i).1) (xs:=[(t8 ds i)]) (enc:=Dc.v) (sz:=37) (fr:=0) (x:=(.full [.agg (Hy ds i)])) kq gS rV gS rfl kq rfl (by first|rfl|simp) kq ⟨by decide,(by kernel_rfl)⟩ (fun _=>rfl) bm bm) ?_ ?_ ?_ ?_;apply qu 3;refine bY kq ⟨kq,?_⟩;refine zE (mT [] [8]) (mO [(0,.arr 2 [.agg [.str [97,112,112],.own 1 0 ((mdS ds l i).1++[(t8 ds i)]).length],.agg (EC ds l i)] 0),(1,.arr 37 (((mdS ds l i).1++[(t8 ds i)]).map Dc.v) 0)]) ?_ ?_;apply zV 2;refine qy (az (a:=((i:Nat):Int)) (b:=8) kq ar ar) ?_ ?_ ?_;refine qP (bu l (i+8) 9 hl dq) bk bk TO kq ?_;apply zR 1 (mU [(53,.bool ((ah l (i+8) 9)==0))]) id;by_cases hb3:(ah l (i+8) 9)=0;apply qt (beq_iff_eq.2 hb3);refine zD cxM kq (df ax) ?_;apply qu 7;refine qD (aX (o:=2) (len:=((mdS ds l i).2.length)) (l:=(mdS ds l i).2) (xs:=[(t8 ds i)]) (enc:=Dc.v) (sz:=37) (fr:=0) (x:=(.full [.agg (Hy ds i)])) kq gS rV gS rfl kq rfl (by first|rfl|simp) kq ⟨by decide,(by kernel_rfl)⟩ (fun _=>rfl) bm bm) ?_ ?_ ?_ ?_;apply qu 3;refine bY kq ⟨kq,?_⟩;refine ag ?_;apply ab;refine zZ (fun _=>[(0,.imm (ds.map Dc.v)),(1,.imm (rm l)),(5,.own 0 0 2),(6,nI i)]) (fun _=>[.arr 2 [.agg [.str [97,112,112],.own 1 0 ((mdS ds l i).1++[(t8 ds i)]).length],.agg [.str [98,97,115,101],.own 2 0 (qz ds l i).length]] 0,.arr 37 (((mdS ds l i).1++[(t8 ds i)]).map Dc.v) 0,.arr 37 ((qz ds l i).map Dc.v) 0,.box (QV ds i)]) ?_ ?_;apply qo;apply qr 1;refine qy (az (a:=((i:Nat):Int)) (b:=1) kq ar ar) ?_ ?_ ?_;apply qr 1;apply qe;refine ab ⟨i+1,?_,?_,(fg kq (hT (by rw [Vl aq aq]) kq) aA Km)⟩
 . omega
 . omega
 iterate 13 kernel_rfl
 apply qf (beq_eq_false_iff_ne.2 hb3);refine qk ?_ ?_;refine ag ?_;apply ab;apply zZ (mT [] [7,53]) id;apply qo;apply qr 1;refine qy (az (a:=((i:Nat):Int)) (b:=1) kq ar ar) ?_ ?_ ?_;apply qr 1;apply qe;refine ab ⟨i+1,?_,?_,(fg kq (hT (by rw [Tc aq aq]) kq) aA Km)⟩
 . omega
 . omega
 iterate 21 kernel_rfl
 refine lH (args:=[.imm (rm l),.int .i64 (((i+7):Nat):Int),.int .i64 2]) (v:=.int .i64 1) (h':=(Mj ds l i)) (Mj ds l i) kq kq kq kq kq (KU l (i+7) _ hl hb2) ?_;apply zR 1 (mU [(8,.int .i64 1)]) id;apply ai;refine zD cxM kq ax ?_;apply qu 9;refine qD (aX (o:=2) (len:=((mdS ds l i).2.length)) (l:=(mdS ds l i).2) (xs:=[(t8 ds i)]) (enc:=Dc.v) (sz:=37) (fr:=0) (x:=(.full [.agg (Hy ds i)])) kq gS rV gS rfl kq rfl (by first|rfl|simp) kq ⟨by decide,(by kernel_rfl)⟩ (fun _=>rfl) bm bm) ?_ ?_ ?_ ?_;apply qu 3;refine bY kq ⟨kq,?_⟩;refine zE (mT [] [8]) (mO [(0,.arr 2 [.agg [.str [97,112,112],.own 1 0 (mdS ds l i).1.length],.agg [.str [98,97,115,101],.own 2 0 (qz ds l i).length]] 0),(2,.arr 37 ((qz ds l i).map Dc.v) 0)]) ?_ ?_;apply zV 2;refine qy (az (a:=((i:Nat):Int)) (b:=8) kq ar ar) ?_ ?_ ?_;refine qP (bu l (i+8) 9 hl dq) bk bk TO kq ?_;apply zR 1 (mU [(53,.bool ((ah l (i+8) 9)==0))]) id;by_cases hb4:(ah l (i+8) 9)=0;apply qt (beq_iff_eq.2 hb4);refine zD cxM kq (df ax) ?_;apply qu 7;refine qD (aX (o:=2) (len:=((qz ds l i).length)) (l:=(qz ds l i)) (xs:=[(t8 ds i)]) (enc:=Dc.v) (sz:=37) (fr:=0) (x:=(.full [.agg (Hy ds i)])) kq gS rV gS rfl kq rfl (by first|rfl|simp) kq ⟨by decide,(by kernel_rfl)⟩ (fun _=>rfl) bm bm) ?_ ?_ ?_ ?_;apply qu 3;refine bY kq ⟨kq,?_⟩;refine ag ?_;apply ab;refine zZ (fun _=>[(0,.imm (ds.map Dc.v)),(1,.imm (rm l)),(5,.own 0 0 2),(6,nI i)]) (fun _=>[.arr 2 [.agg [.str [97,112,112],.own 1 0 (mdS ds l i).1.length],.agg [.str [98,97,115,101],.own 2 0 ((qz ds l i)++[(t8 ds i)]).length]] 0,.arr 37 ((mdS ds l i).1.map Dc.v) 0,.arr 37 (((qz ds l i)++[(t8 ds i)]).map Dc.v) 0,.box (QV ds i)]) ?_ ?_;apply qo;apply qr 1;refine qy (az (a:=((i:Nat):Int)) (b:=1) kq ar ar) ?_ ?_ ?_;apply qr 1;apply qe;refine ab ⟨i+1,?_,?_,(fg kq (hT (by rw [Uz aq aq]) kq) aA Km)⟩
 . omega
 . omega
 iterate 13 kernel_rfl
 apply qf (beq_eq_false_iff_ne.2 hb4);refine qk ?_ ?_;refine ag ?_;apply ab;apply zZ (mT [] [7,53]) id;apply qo;apply qr 1;refine qy (az (a:=((i:Nat):Int)) (b:=1) kq ar ar) ?_ ?_ ?_;apply qr 1;apply qe;refine ab ⟨i+1,?_,?_,(fg kq (hT (by rw [Vv aq aq]) kq) aA Km)⟩
 . omega
 . omega
 iterate 50 kernel_rfl
 apply qf (decide_eq_false hb1);refine aK 0 kq kq ?_;apply ac;apply ac;refine ao ?_;apply ab;refine zZ (fun _=>[(5,.own 0 0 2)]) (fun _=>[.arr 2 (Lp ds l i) 0,.arr 37 ((mdS ds l i).1.map Dc.v) 0,.arr 37 ((mdS ds l i).2.map Dc.v) 0]) ?_ ?_;refine On 0 0 1 1 (sz:=2) (fr:=0) (es:=(Lp ds l i)) (cs:=[.str [97,112,112],.own 1 0 (mdS ds l i).1.length]) (es2:=((mdS ds l i).1.map Dc.v)) (off:=0) (len:=((mdS ds l i).1.length)) (sz2:=37) (fr2:=0) [.agg [.str [97,112,112],.imm ((mdS ds l i).1.map Dc.v)],.agg (EC ds l i)] ((mdS ds l i).1.map Dc.v) dq kq kq kq kq zq kq kq ?_;refine On 0 1 1 2 (sz:=2) (fr:=0) (es:=[.agg [.str [97,112,112],.imm ((mdS ds l i).1.map Dc.v)],.agg (EC ds l i)]) (cs:=(EC ds l i)) (es2:=((mdS ds l i).2.map Dc.v)) (off:=0) (len:=((mdS ds l i).2.length)) (sz2:=37) (fr2:=0) (E7 ds l i) ((mdS ds l i).2.map Dc.v) dq kq kq kq kq zq kq kq ?_;refine bZ 5 0 (es:=(E7 ds l i)) (off:=0) (len:=2) (sz:=2) (fr:=0) (E7 ds l i) kq kq zq kq ?_;refine zZ (mK 1 [(5,.imm (E7 ds l i))] []) (fun _=>(Ue ds l i)) ?_ ?_;refine zW 2 (fun _=>[(4,.imm (E7 ds l i))]) (fun _=>(Ue ds l i)) ?_ ?_;refine aJ kq ?_;refine cd (l:=[.imm [.agg [.str [97,112,112],.imm ((mdS ds l i).1.map Dc.v)],.agg [.str [98,97,115,101],.imm ((mdS ds l i).2.map Dc.v)]]]) (.inr rfl) kq ?_
 . have e_:i=ds.length:=by omega
   subst e_;simp [aZ,aa.frz,aN,lN,Md.v]
 iterate 18 kernel_rfl
theorem Ty.beq_refl (t:Ty):t.beq t=true:=by
 induction hN:t.sz using Nat.strongRecOn generalizing t with|_ N ih =>
 have:=cq Ty.beq Ty.zero Ty.zero t.kids t.kids rfl (fun i hi=>ih _ (by rw [<- hN];exact fV t i hi) _ rfl);rw [beq_eq,this];simp
theorem Ex.beq_refl (t:Ex):t.beq t=true:=by
 induction hN:t.sz using Nat.strongRecOn generalizing t with|_ N ih =>
 have:=cq Ex.beq Ex.zero Ex.zero t.kids t.kids rfl (fun i hi=>ih _ (by rw [<- hN];exact wS t i hi) _ rfl);rw [jz,this];simp
theorem mi {α:Type} (p:α->α->Bool) (d:α) (l:List α) (h:∀ x,p x x=true):br p l l=true:=cq p d d l l rfl (fun _ _=>h _)
theorem Ct.beq_refl (c:Ct):c.beq c=true:=by simp [Ct.beq,Ty.beq_refl]
theorem Co.beq_refl (c:Co):c.beq c=true:=by simp [Co.beq,Ty.beq_refl]
theorem Rf.beq_refl (c:Rf):c.beq c=true:=by simp [Rf.beq]
theorem Sm.beq_refl (c:Sm):c.beq c=true:=by simp [Sm.beq,mi Ct.beq Ct.zero c.ctors Ct.beq_refl]
theorem Tb.beq_refl (c:Tb):c.beq c=true:=by simp [Tb.beq,mi Co.beq Co.zero c.cols Co.beq_refl,mi Rf.beq Rf.zero c.refs Rf.beq_refl,Ex.beq_refl]
theorem Sc.beq_refl (c:Sc):c.beq c=true:=by simp [Sc.beq,mi Sm.beq Sm.zero c.sums Sm.beq_refl,mi Tb.beq Tb.zero c.tabs Tb.beq_refl]
section
variable {O:List UInt8->Bool} {U:Ty->Bool} {Y:Ex->Int} {V:List Md} {Z:List Sm}
theorem oY:(gT O U Y V Z).tabs.Perm (itP (stI O U Y V V.length).bp.1 9 (stI O U Y V V.length).out):=mD _ _ (Nat.le_refl _)
theorem P2 {p:Tb->Prop} {s:SP} {doc:List UInt8} {d:Dc} {chk':Ex->Bool} {fst:List UInt8->Option Tb} (hd:p (d.tab.named d.name)) (h:∀ t∈s.out,p t):∀ t∈(dP O U chk' fst doc d s).out,p t:=by
 unfold dP;split
 . split
   . exact h
   . intro t ht;rcases List.mem_append.1 ht with q|q
     . exact h t q
     . rw [List.mem_singleton] at q;subst q;exact hd
 . exact h
theorem EF {p:Tb->Prop} {i:Nat} (hd:∀ k,k<(kz V i).decls.length->p ((dcl V i k).tab.named (dcl V i k).name)) (h:∀ t∈(stI O U Y V i).out,p t):∀ k,k<=(kz V i).decls.length->∀ t∈(stD O U Y V i k).out,p t
 | 0,_=>h
 | k+1,hk=>P2 (hd k oq) (EF hd h k oq)
theorem DA {p:Tb->Prop} (hd:∀ i,i<V.length->∀ k,k<(V.getD i Md.zero).decls.length->p ((dcl V i k).tab.named (dcl V i k).name)):∀ i,i<=V.length->∀ t∈(stI O U Y V i).out,p t
 | 0,_=>fun t ht=>by cases ht
 | i+1,h=>EF (hd i oq) (DA hd i oq) _ (Nat.le_refl _)
end
def dcS (x:Sm):Dc:=⟨0,x.name,x,Tb.zero,0,0,0⟩
def dcT (t:Tb):Dc:=⟨1,t.name,Sm.zero,t,0,0,0⟩
def dy (s:Sc):List Dc:=s.sums.map dcS++s.tabs.map dcT
theorem MQ (s:Sc) {i:Nat} (h:¬ ((i:Nat):Int)<((s.sums.length:Nat):Int)):([]:List Dc)++(s.sums.take i).map dcS=s.sums.map dcS:=by rw [List.take_of_length_le oq];rfl
abbrev Bg (s:Sc)(k:Nat):List aa:=[.agg [.int .i64 1,.str (s.tabs.getD k Tb.zero).name,.str [],.full [],.str (s.tabs.getD k Tb.zero).name,.imm ((s.tabs.getD k Tb.zero).cols.map Co.v),.imm ((s.tabs.getD k Tb.zero).key.map aa.str),.imm ((s.tabs.getD k Tb.zero).refs.map Rf.v),.int .i64 ((s.tabs.getD k Tb.zero).chk.kind),.str (s.tabs.getD k Tb.zero).chk.name,.int .i64 ((s.tabs.getD k Tb.zero).chk.n),.str (s.tabs.getD k Tb.zero).chk.s,.imm ((s.tabs.getD k Tb.zero).chk.names.map aa.str),.imm ((s.tabs.getD k Tb.zero).chk.binds.map aa.str),.imm ((s.tabs.getD k Tb.zero).chk.kids.map Ex.enc),.int .i64 ((s.tabs.getD k Tb.zero).chk.pos),.int .i64 ((s.tabs.getD k Tb.zero).chk.fin),.full [],.bool false,.int .i64 0,.str [],.int .i64 0,.full [],.full [],.int .i64 0,.str [],.int .i64 0,.str [],.full [],.full [],.full [],.int .i64 0,.int .i64 0,.full [],.int .i64 0,.int .i64 0,.int .i64 0]]
abbrev La (s:Sc)(i:Nat):List aa:=[.agg [.int .i64 0,.str (s.sums.getD i Sm.zero).name,.str (s.sums.getD i Sm.zero).name,.imm ((s.sums.getD i Sm.zero).ctors.map Ct.v),.str [],.full [],.full [],.full [],.int .i64 0,.str [],.int .i64 0,.str [],.full [],.full [],.full [],.int .i64 0,.int .i64 0,.full [],.bool false,.int .i64 0,.str [],.int .i64 0,.full [],.full [],.int .i64 0,.str [],.int .i64 0,.str [],.full [],.full [],.full [],.int .i64 0,.int .i64 0,.full [],.int .i64 0,.int .i64 0,.int .i64 0]]
abbrev lT (s:Sc)(k:Nat):=((s.sums.map dcS)++(s.tabs.take k).map dcT)
abbrev RS (s:Sc)(i:Nat):=((([]:List Dc)++(s.sums.take i).map dcS)++[(Dc.mk 0 ((s.sums.getD i Sm.zero).name) (s.sums.getD i Sm.zero) (Tb.mk [] [] [] [] (Ex.mk 0 [] 0 [] [] [] [] 0 0)) 0 0 0)])
abbrev F2 (s:Sc)(k:Nat):=((lT s k)++[(Dc.mk 1 ((s.tabs.getD k Tb.zero).name) (Sm.mk [] []) (s.tabs.getD k Tb.zero) 0 0 0)])
abbrev p8 (s:Sc)(i:Nat):=(([]:List Dc)++(s.sums.take i).map dcS)
abbrev eB (s:Sc):List aa:=[.imm (s.sums.map Sm.v),.imm (s.tabs.map Tb.v)]
theorem bV {p:Prop} (h:p:=by simp [am.belO,aC,cw,aa.bel,Ty.v,Ex.v,Ct.v,Co.v,Rf.v,Sm.v,Tb.v_cs,Sc.v,Md.v,Pb.v,Ls.v,-List.map_take,-List.map_drop,-List.map_append,-List.map_map]):p:=h
theorem NP {p:Prop} (h:p:=by simp [wk,aN,aa.frz,List.map_append,Dc.v,Dc.cs,Ex.kind,Ex.name,Ex.n,Ex.s,Ex.names,Ex.binds,Ex.kids,Ex.pos,Ex.fin,Ty.v,Ex.v,Ct.v,Co.v,Rf.v,Sm.v,Tb.v_cs,Sc.v,Md.v,Pb.v,Ls.v,-List.map_take,-List.map_drop,-List.map_map]):p:=h
theorem jO {p:Prop} (h:p:=by simp [cQ,aF,aa.owns,Ty.v,Ex.v,Ct.v,Co.v,Rf.v,Sm.v,Tb.v_cs,Sc.v,Md.v,Pb.v,Ls.v,-List.map_take,-List.map_drop,-List.map_append,-List.map_map]):p:=h
theorem NG {p:Prop} (h:p:=by rw [MQ s aq,List.take_zero,List.map_nil,List.append_nil] <;> (show _=_;kernel_rfl)):p:=h
abbrev QU (s:Sc):List aa:=[.imm (s.sums.map Sm.v),.imm (s.tabs.map Tb.v)]
theorem CP (s:Sc) (h1:s.sums.length<=100) (h2:s.tabs.length<=100):ae cx 23 [Sc.v s] (.imm ((dy s).map Dc.v)):=by
 refine fI 51 0 [(ResultVar.tmp 2)] Tryz.func23 kq ?_;refine zZ (fun _=>[(0,Sc.v s)]) (fun _=>[]) ?_ ?_;apply zW 2 (mT [(1,.ptr 0 0)] [0]) (mH [] [.box (eB s)]);apply zW 1 (mU [(3,.full [])]) id;refine jg 3 37 dq kq ?_;apply zZ (mK 1 [] []) (mO [(1,.arr 37 (([]:List (Dc)).map Dc.v) 0)]);apply ai;apply zW 1 (mU [(4,.int .i64 0)]) id;apply qB 0;refine aT (σ:=Nat) (fun i=>[(1,.ptr 0 0),(3,.own 1 0 (([]:List Dc)++(s.sums.take i).map dcS).length),(4,.int .i64 ((i:Nat):Int))]) (fun i=>[.box (QU s),.arr 37 ((([]:List Dc)++(s.sums.take i).map dcS).map Dc.v) 0]) (fun i=>i<=s.sums.length) (fun i=>s.sums.length - i) 0 kq i3 (fg kq kq aA bV) ?_;rintro i hi;have hl1:(([]:List Dc)++(s.sums.take i).map dcS).length<=i:=by simp only [List.nil_append,List.length_map,List.length_take];omega
 apply ai;apply zV 3;refine qy (aj (l:=s.sums) (enc:=Sm.v) kq di) ?_ ?_ ?_;apply zR 1 (mU [(10,.bool (decide (((i:Nat):Int)<((s.sums.length:Nat):Int))))]) id;by_cases hb1:((i:Nat):Int)<((s.sums.length:Nat):Int);apply qt (decide_eq_true hb1);apply qK;apply zZ (mT [] [10]) id;apply ai;apply qB 1;refine zD cxM kq (df ax) ?_;apply qu 4;refine qd ((au (k:=.i64) (l:=s.sums) (enc:=Sm.v) (i:=((i:Nat):Int)) Sm.zero kq di e9 (fun _=>rfl) ar ar).trans (congrArg (fun cs=>some (aa.pimm cs 0,_)) (cr (s.sums.getD i Sm.zero)))) ?_ ?_ ?_ ?_;apply qu 5;refine qd ((au (k:=.i64) (l:=s.sums) (enc:=Sm.v) (i:=((i:Nat):Int)) Sm.zero kq di e9 (fun _=>rfl) ar ar).trans (congrArg (fun cs=>some (aa.pimm cs 0,_)) (cr (s.sums.getD i Sm.zero)))) ?_ ?_ ?_ ?_;apply qu 3;refine qD (kj (o:=1) (len:=((p8 s i).length)) (l:=(p8 s i)) (xs:=(La s i)) (enc:=Dc.v) (sz:=37) (fr:=0) (x:=(.full (La s i))) kq gS rV gS rfl kq rfl (by first|rfl|simp) kq ⟨by decide,(by kernel_rfl)⟩ kq bm bm) ?_ ?_ ?_ ?_;apply qu 1;refine bY kq ⟨kq,?_⟩;refine ag ?_;apply ab;refine zZ (fun _=>[(1,.ptr 0 0),(3,.own 1 0 ((p8 s i).length+1)),(4,nI i)]) (fun _=>[.box (eB s),.arr 37 ((p8 s i).map Dc.v++(La s i)) 0]) ?_ ?_;refine qV 1 (sz:=37) (fr:=0) (es:=((p8 s i).map Dc.v++(La s i))) ((RS s i).map Dc.v) kq jO NP ?_;refine GS 3 (.own 1 0 ((p8 s i).length+1)) (.own 1 0 (RS s i).length) kq (by first|(simp;done)|(simp;omega)) ?_;apply zZ (mK 1 [] []) (mO [(1,.arr 37 ((RS s i).map Dc.v) 0)]);apply qo;apply qr 1;refine qy (az (a:=((i:Nat):Int)) (b:=1) kq ar ar) ?_ ?_ ?_;apply qr 1;apply qe;refine ab ⟨i+1,?_,?_,⟨⟨kq,(hT (by rw [js (L:=s.sums) (d:=Sm.zero) oq]) kq),kq,trivial⟩,aA,by simp,(hT (by rw [js (L:=s.sums) (d:=Sm.zero) oq]) kq),bV⟩⟩
 . omega
 . omega
 iterate 27 kernel_rfl
 apply qf (decide_eq_false hb1);refine aK 0 kq kq ?_;apply ac;apply ac;refine ao ?_;apply ab;apply zZ (mT [] [4,10]) id;apply ai;apply zW 1 (mU [(5,.int .i64 0)]) id;apply qB 2;refine aT (σ:=Nat) (fun k=>[(1,.ptr 0 0),(3,.own 1 0 ((s.sums.map dcS)++(s.tabs.take k).map dcT).length),(5,.int .i64 ((k:Nat):Int))]) (fun k=>[.box (QU s),.arr 37 (((s.sums.map dcS)++(s.tabs.take k).map dcT).map Dc.v) 0]) (fun k=>k<=s.tabs.length) (fun k=>s.tabs.length - k) 0 kq i3 ⟨⟨kq,(Eq.trans (b:=.own 1 0 (([]:List Dc)++(s.sums.take i).map dcS).length) kq NG),kq,trivial⟩,aA,by simp,(Eq.trans (b:=[.box (QU s),.arr 37 ((([]:List Dc)++(s.sums.take i).map dcS).map Dc.v) 0]) kq NG),bV⟩ ?_;rintro k hk;have hl2:((s.sums.map dcS)++(s.tabs.take k).map dcT).length<=s.sums.length+k:=by simp only [List.length_append,List.length_map,List.length_take];omega
 apply ai;apply zV 3;refine qy (aj (l:=s.tabs) (enc:=Tb.v) kq cD) ?_ ?_ ?_;apply zR 1 (mU [(32,.bool (decide (((k:Nat):Int)<((s.tabs.length:Nat):Int))))]) id;by_cases hb2:((k:Nat):Int)<((s.tabs.length:Nat):Int);apply qt (decide_eq_true hb2);apply qK;apply zZ (mT [] [32]) id;apply ai;apply qB 3;refine zD cxM kq (df ax) ?_;apply qu 4;refine qd ((au (k:=.i64) (l:=s.tabs) (enc:=Tb.v) (i:=((k:Nat):Int)) Tb.zero kq cD d3 (fun _=>rfl) ar ar).trans (congrArg (fun cs=>some (aa.pimm cs 0,_)) (cL (s.tabs.getD k Tb.zero)))) ?_ ?_ ?_ ?_;apply qu 5;refine qd ((au (k:=.i64) (l:=s.tabs) (enc:=Tb.v) (i:=((k:Nat):Int)) Tb.zero kq cD d3 (fun _=>rfl) ar ar).trans (congrArg (fun cs=>some (aa.pimm cs 0,_)) (cL (s.tabs.getD k Tb.zero)))) ?_ ?_ ?_ ?_;apply qu 3;refine qD (kj (o:=1) (len:=((lT s k).length)) (l:=(lT s k)) (xs:=(Bg s k)) (enc:=Dc.v) (sz:=37) (fr:=0) (x:=(.full (Bg s k))) kq gS rV gS rfl kq rfl (by first|rfl|simp) kq ⟨by decide,(by kernel_rfl)⟩ kq bm bm) ?_ ?_ ?_ ?_;apply qu 1;refine bY kq ⟨kq,?_⟩;refine ag ?_;apply ab;refine zZ (fun _=>[(1,.ptr 0 0),(3,.own 1 0 ((lT s k).length+1)),(5,nI k)]) (fun _=>[.box (eB s),.arr 37 ((lT s k).map Dc.v++(Bg s k)) 0]) ?_ ?_;refine qV 1 (sz:=37) (fr:=0) (es:=((lT s k).map Dc.v++(Bg s k))) ((F2 s k).map Dc.v) kq jO NP ?_;refine GS 3 (.own 1 0 ((lT s k).length+1)) (.own 1 0 (F2 s k).length) kq (by first|(simp;done)|(simp;omega)) ?_;apply zZ (mK 1 [] []) (mO [(1,.arr 37 ((F2 s k).map Dc.v) 0)]);apply qo;apply qr 1;refine qy (az (a:=((k:Nat):Int)) (b:=1) kq ar ar) ?_ ?_ ?_;apply qr 1;apply qe;refine ab ⟨k+1,?_,?_,⟨⟨kq,(hT (by rw [js (L:=s.tabs) (d:=Tb.zero) oq]) kq),kq,trivial⟩,aA,by simp,(hT (by rw [js (L:=s.tabs) (d:=Tb.zero) oq]) kq),bV⟩⟩
 . omega
 . omega
 iterate 27 kernel_rfl
 apply qf (decide_eq_false hb2);refine aK 2 kq kq ?_;apply ac;apply ac;refine ao ?_;apply ab;apply zZ (mT [] [1,5,32]) id;refine zW 2 (fun _=>[(2,.own 1 0 (lT s k).length)]) (fun _=>[.box (eB s),.arr 37 ((lT s k).map Dc.v) 0]) ?_ ?_;refine aJ kq ?_;refine cd (l:=[.own 1 0 ((s.sums.map dcS)++(s.tabs.take k).map dcT).length]) (.inr rfl) kq ?_
 . have e_:k=s.tabs.length:=by omega
   subst e_;rw [List.take_length];simp [aZ,aa.frz,aN,dy,cw,cQ,-List.map_map]
 iterate 27 kernel_rfl
end Go.Proofs.YtcpklndelobigaaGreatDoor
