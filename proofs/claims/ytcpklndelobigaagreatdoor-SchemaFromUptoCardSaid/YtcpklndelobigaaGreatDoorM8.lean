/- SortFunc over iy by their names. Condition: at most twelve iy. -/
import Derived.Test.YtcpklndelobigaaGreatDoorM7
import Derived.Test.YtcpklndelobigaaGreatDoorS4
set_option linter.all false
namespace Go.Proofs.YtcpklndelobigaaGreatDoor
open Go.Proofs.YtcpklndelobigaaGreatDoor.Abs
set_option maxRecDepth 20000
set_option maxHeartbeats 4000000
noncomputable def c34:Code:=aF Tryz.f34
theorem Ix (a b:Tb) :af cx 34 [Tb.v a,Tb.v b] (.int .i64 (gk a.name b.name)):=by
 refine am (cx:=cx) 10 0 [(ResultVar.tmp 4)] Tryz.func34 rfl rfl rfl rfl rfl zq ?_;show wpA cx 10 0 (at_ c34 []) _ _ _;refine zZ (fun _=>[(0,Tb.v a),(1,Tb.v b)]) (fun _=>[]) ?_ ?_;refine zW 3 (fun _=>[(2,.ptr 0 0),(3,.ptr 1 0)]) (fun _=>[.box (Tb.cs a),.box (Tb.cs b)]) ?_ ?_;apply zV 4;apply qc [.str a.name,.str b.name] (jT a.name b.name);apply qX 1;refine fe (n:=(gk a.name b.name)) (.inr rfl) kq ?_
 . rfl
 iterate 5 kernel_rfl
theorem nd (a b:List UInt8):gk a b<0↔aV a b=true:=by
 unfold gk;cases aV a b <;> cases aV b a <;> decide
theorem jm1 {j:Nat}:(((j:Nat):Int) - 1).toNat=j - 1:=by omega
theorem LH (a:List Tb) (j:Nat):((a.set (0+j) (a.getD (0+(((j:Nat):Int) - 1).toNat) Tb.zero)).set (0+(((j:Nat):Int) - 1).toNat) (a.getD (0+j) Tb.zero))=q9 a j:=by
 rw [jm1,Nat.zero_add,Nat.zero_add];rfl
theorem DB {a b:List Tb} {i j:Nat} (h:g0 j a=g0 i b) (hj:¬ ((j:Nat):Int) > 0):a=g0 i b:=by
 have:j=0:=by omega
 subst this;exact h
theorem Cw {a b:List Tb} {i j:Nat} (h:g0 j a=g0 i b) (hs:¬ (gk (a.getD (0+j) Tb.zero).name (a.getD (0+(((j:Nat):Int) - 1).toNat) Tb.zero).name)<0):a=g0 i b:=by
 cases j with
 | zero=>exact h
 | succ j =>
  rw [nd,jm1,Nat.zero_add,Nat.zero_add,Nat.add_sub_cancel] at hs;rw [g0,if_neg hs] at h;exact h
theorem Lm {a b:List Tb} {i j:Nat} (h:g0 j a=g0 i b) (hj:((j:Nat):Int) > 0) (hs:(gk (a.getD (0+j) Tb.zero).name (a.getD (0+(((j:Nat):Int) - 1).toNat) Tb.zero).name)<0):g0 (j - 1) (q9 a j)=g0 i b:=by
 cases j with
 | zero=>omega
 | succ j =>
  rw [nd,jm1,Nat.zero_add,Nat.zero_add,Nat.add_sub_cancel] at hs;rw [g0,if_pos hs] at h;exact h
theorem Ga {l:List Tb} {i:Nat} (h1:1<=i) (h2:i<=l.length\/i=1) (h3:¬ ((i:Nat):Int)<((l.length:Nat):Int)):fJ i l=fJ l.length l:=by
 rcases h2 with h|h
 . have:i=l.length:=by omega
   rw [this]
 . subst h;cases e:l.length with
   | zero=>rfl
   | succ n => have:n=0:=by omega
               rw [this]
def LS (n:Nat):Int:=if n=0 then 0 else if n<2 then 1 else if n<4 then 2 else if n<8 then 3 else 4
theorem tF (n:Nat) (hn:n<=12):af cx 85 [.int .u64 ((n:Nat):Int)] (.int .i64 (LS n)):=by
 match n,hn with
 | 0,_=>exact a8 (p:=xp) cxM bb bE 60 false 85 [.int .u64 0] [] (.int .i64 0,[]) kq
 | 1,_=>exact a8 (p:=xp) cxM bb bE 60 false 85 [.int .u64 1] [] (.int .i64 1,[]) kq
 | 2,_=>exact a8 (p:=xp) cxM bb bE 60 false 85 [.int .u64 2] [] (.int .i64 2,[]) kq
 | 3,_=>exact a8 (p:=xp) cxM bb bE 60 false 85 [.int .u64 3] [] (.int .i64 2,[]) kq
 | 4,_=>exact a8 (p:=xp) cxM bb bE 60 false 85 [.int .u64 4] [] (.int .i64 3,[]) kq
 | 5,_=>exact a8 (p:=xp) cxM bb bE 60 false 85 [.int .u64 5] [] (.int .i64 3,[]) kq
 | 6,_=>exact a8 (p:=xp) cxM bb bE 60 false 85 [.int .u64 6] [] (.int .i64 3,[]) kq
 | 7,_=>exact a8 (p:=xp) cxM bb bE 60 false 85 [.int .u64 7] [] (.int .i64 3,[]) kq
 | 8,_=>exact a8 (p:=xp) cxM bb bE 60 false 85 [.int .u64 8] [] (.int .i64 4,[]) kq
 | 9,_=>exact a8 (p:=xp) cxM bb bE 60 false 85 [.int .u64 9] [] (.int .i64 4,[]) kq
 | 10,_=>exact a8 (p:=xp) cxM bb bE 60 false 85 [.int .u64 10] [] (.int .i64 4,[]) kq
 | 11,_=>exact a8 (p:=xp) cxM bb bE 60 false 85 [.int .u64 11] [] (.int .i64 4,[]) kq
 | 12,_=>exact a8 (p:=xp) cxM bb bE 60 false 85 [.int .u64 12] [] (.int .i64 4,[]) kq
 | n+13,h=>exact absurd h oq
noncomputable def Q7:Code:=aF Tryz.f154
abbrev nB (a:List Tb)(j:Nat):=(a.getD (0+((((j:Nat):Int) - 1)).toNat) Tb.zero)
abbrev EM (a:List Tb)(j:Nat):=(gk (iI a j).name (nB a j).name)
abbrev vK (l:List Tb):Nat×aa:=(0,.own 0 0 l.length)
abbrev wm (j:Nat):aa:=(.bool (decide (((j:Nat):Int) > 0)))
abbrev m5 (j:Nat):=(((j:Nat):Int) - 1)
theorem gd {p:Prop} (h:p:=by simp [ax.belO,aM,aa.bel,Ty.v,Ex.v,Ct.v,Co.v,Rf.v,Sm.v,Tb.v_cs,Sc.v,Md.v,Pb.v,Ls.v,-List.map_take,-List.map_drop,-List.map_append,-List.map_set]):p:=h
theorem pF {p:Prop} (h:p:=by first|(simp;done)|(simp [hal,hil];done)|(simp [hal];done)):p:=h
theorem PA {p:Prop} (h:p:=by (first|rw [DB hJ.1 aq]|rw [Cw hJ.1 aq]);show _=_;kernel_rfl):p:=h
theorem Jp {p:Prop} (h:p:=by rw [cQ];exact kq):p:=h
theorem IH (l:List Tb) (hl:l.length<1000):aE cx 154 [.own 0 0 l.length,.int .i64 0,.int .i64 ((l.length:Nat):Int),.fn (.func 34) [] []] [.arr 13 (l.map Tb.v) 0] (fun v h=>v=(.tup [])/\h=[.arr 13 ((fJ l.length l).map Tb.v) 0]):=by
 refine am (cx:=cx) 53 1 [] Tryz.func154 rfl rfl rfl rfl rfl zq ?_;show wpA cx 53 1 (at_ Q7 []) _ _ _;refine zZ (fun _=>[(vK l),(1,.int .i64 0),(2,nI l.length),(3,.fn (.func 34) [] [])]) (fun _=>[.arr 13 (l.map Tb.v) 0]) ?_ ?_;apply zW 3 (mU [(8,.int .i64 1)]) id;apply qB 0;refine aU (σ:=Nat) (fun i=>[(vK l),(1,.int .i64 0),(2,.int .i64 ((l.length:Nat):Int)),(3,.fn (.func 34) [] []),(8,nI i)]) (fun i=>[.arr 13 ((fJ i l).map Tb.v) 0]) (fun i=>1<=i/\(i<=l.length\/i=1)) (fun i=>l.length - i) 1 kq oq (fg kq (Eq.trans (b:=[.arr 13 (l.map Tb.v) 0]) kq (by show _=_;kernel_rfl)) az gd) ?_;rintro i ⟨hi1,hi2⟩;have hil:=jr l i;apply ao;apply zW 3 (mU [(14,.bool (decide (((i:Nat):Int)<((l.length:Nat):Int))))]) id;by_cases hb1:((i:Nat):Int)<((l.length:Nat):Int);apply qt (decide_eq_true hb1);apply qK;apply zZ (mT [] [14]) id;apply ao;apply qB 1;apply zW 2 (mU [(9,nI i)]) id;apply qB 2;refine aU (σ:=(List Tb×Nat)) (fun ⟨a,j⟩=>[(vK l),(1,.int .i64 0),(2,.int .i64 ((l.length:Nat):Int)),(3,.fn (.func 34) [] []),(8,nI i),(9,nI j)]) (fun ⟨a,j⟩=>[.arr 13 (a.map Tb.v) 0]) (fun ⟨a,j⟩=>g0 j a=g0 i (fJ i l)/\a.length=l.length/\j<=i) (fun ⟨a,j⟩=>j) (fJ i l,i) kq (by exact ⟨rfl,hil,Nat.le_refl _⟩) (fg kq kq az gd) ?_;rintro ⟨a,j⟩ hJ;have hal:=hJ.2.1;have hji:=hJ.2.2;refine zZ (fun _=>[(vK l),(1,.int .i64 0),(2,nI l.length),(3,.fn (.func 34) [] []),(8,nI i),(9,nI j)]) (fun _=>[.arr 13 (a.map Tb.v) 0]) ?_ ?_;apply ao;apply ao;refine zD cxM kq aj ?_;apply qu 4;by_cases hb2:((j:Nat):Int) > 0;refine bL 20 (wm j) (.bool true) (bN aj) kq (congrArg aa.bool (decide_eq_true hb2)) ?_;refine bL 21 (wm j) (.bool true) (bN aj) kq (congrArg aa.bool (decide_eq_true hb2)) ?_;apply qu 3;refine qd (b9 (k:=.i64) (i:=((j:Nat):Int)) (o:=0) (off:=0) (len:=l.length) (sz:=13) (fr:=0) (es:=(a.map Tb.v)) kq b7 cN kq rfl pF ar ar) ?_ ?_ ?_ ?_;refine qd (eI (t:=52) (o:=0) (idx:=(0+j)) (off:=0) (k:=((a.map Tb.v).length)) (sz:=13) (fr:=0) (es:=(a.map Tb.v)) (x:=Tb.v (iI a j)) (v:=.agg (Tb.cs (iI a j))) kq kq zq (eJ _ _ _ _ ar) Jp) ?_ ?_ ?_ ?_;apply qu 2;refine qd (fd (a:=((j:Nat):Int)) (b:=1) kq ar ar) ?_ ?_ ?_ ?_;refine qd (b9 (k:=.i64) (i:=(((j:Nat):Int) - 1)) (o:=0) (off:=0) (len:=l.length) (sz:=13) (fr:=0) (es:=(a.map Tb.v)) kq b7 cN kq rfl pF ar ar) ?_ ?_ ?_ ?_;refine qd (eI (t:=52) (o:=0) (idx:=(0+((m5 j)).toNat)) (off:=0) (k:=((a.map Tb.v).length)) (sz:=13) (fr:=0) (es:=(a.map Tb.v)) (x:=Tb.v (nB a j)) (v:=.agg (Tb.cs (nB a j))) kq kq zq (eJ _ _ _ _ ar) Jp) ?_ ?_ ?_ ?_;refine qQ (Ix (iI a j) (nB a j)) aY aY aY kq ?_;apply qu 2;refine bh kq ⟨kq,?_⟩;apply zE (mU [(22,.fn (.func 34) [] []),(23,.own 0 0 l.length),(24,nI j),(25,.pown 0 (0+j) 0 (a.map Tb.v).length),(26,.agg (Tb.cs (iI a j))),(27,.own 0 0 l.length),(28,nI j),(29,.int .i64 (m5 j)),(30,.pown 0 (0+((m5 j)).toNat) 0 (a.map Tb.v).length),(31,.agg (Tb.cs (nB a j))),(32,.int .i64 (EM a j)),(33,.bool (decide ((EM a j)<0))),(34,.bool (decide ((EM a j)<0)))]) id;by_cases hb3:(gk (a.getD (0+j) Tb.zero).name (a.getD (0+((((j:Nat):Int) - 1)).toNat) Tb.zero).name)<0;apply qt (decide_eq_true hb3);apply qK;apply zZ (mT [] [34]) id;apply ao;apply qB 3;refine zD cxM kq (dE aj) ?_;apply qu 4;refine qd (fd (a:=((j:Nat):Int)) (b:=1) kq ar ar) ?_ ?_ ?_ ?_;apply qu 2;refine qd (fd (a:=((j:Nat):Int)) (b:=1) kq ar ar) ?_ ?_ ?_ ?_;refine qd (b9 (k:=.i64) (i:=(((j:Nat):Int) - 1)) (o:=0) (off:=0) (len:=l.length) (sz:=13) (fr:=0) (es:=(a.map Tb.v)) kq b7 cN kq rfl pF ar ar) ?_ ?_ ?_ ?_;refine qd (eI (t:=52) (o:=0) (idx:=(0+((m5 j)).toNat)) (off:=0) (k:=((a.map Tb.v).length)) (sz:=13) (fr:=0) (es:=(a.map Tb.v)) (x:=Tb.v (nB a j)) (v:=.agg (Tb.cs (nB a j))) kq kq zq (eJ _ _ _ _ ar) Jp) ?_ ?_ ?_ ?_;apply qu 2;refine qd (b9 (k:=.i64) (i:=((j:Nat):Int)) (o:=0) (off:=0) (len:=l.length) (sz:=13) (fr:=0) (es:=(a.map Tb.v)) kq b7 cN kq rfl pF ar ar) ?_ ?_ ?_ ?_;refine qd (eI (t:=52) (o:=0) (idx:=(0+j)) (off:=0) (k:=((a.map Tb.v).length)) (sz:=13) (fr:=0) (es:=(a.map Tb.v)) (x:=Tb.v (iI a j)) (v:=.agg (Tb.cs (iI a j))) kq kq zq (eJ _ _ _ _ ar) Jp) ?_ ?_ ?_ ?_;refine qd (b9 (k:=.i64) (i:=((j:Nat):Int)) (o:=0) (off:=0) (len:=l.length) (sz:=13) (fr:=0) (es:=(a.map Tb.v)) kq b7 cN kq rfl pF ar ar) ?_ ?_ ?_ ?_;refine qD (iV (o:=0) (k:=((a.map Tb.v).length)) (x:=.agg (Tb.cs (nB a j))) (enc:=Tb.v) (l:=a) (X:=(nB a j)) (d:=Tb.zero) (idx:=(0+j)) (sz:=13) kq (Tb.v_v (nB a j)).symm kq zq ar cN Ab v6) ?_ ?_ ?_ ?_;refine qd (b9 (k:=.i64) (i:=(((j:Nat):Int) - 1)) (o:=0) (off:=0) (len:=l.length) (sz:=13) (fr:=0) (es:=((a.set (0+j) (a.getD (0+((((j:Nat):Int) - 1)).toNat) Tb.zero)).map Tb.v)) kq b7 cN kq rfl pF ar ar) ?_ ?_ ?_ ?_;refine qD (iV (o:=0) (k:=(((a.set (0+j) (nB a j)).map Tb.v).length)) (x:=.agg (Tb.cs (iI a j))) (enc:=Tb.v) (l:=(a.set (0+j) (nB a j))) (X:=(iI a j)) (d:=Tb.zero) (idx:=(0+((m5 j)).toNat)) (sz:=13) kq (Tb.v_v (iI a j)).symm kq zq ar cN Ab v6) ?_ ?_ ?_ ?_;refine bh kq ⟨kq,?_⟩;apply ag;apply ab;refine zZ (fun _=>[(vK l),(1,.int .i64 0),(2,nI l.length),(3,.fn (.func 34) [] []),(8,nI i),(9,nI j),(22,.fn (.func 34) [] []),(23,.own 0 0 l.length),(24,nI j),(25,.pown 0 (0+j) 0 (a.map Tb.v).length),(26,.agg (Tb.cs (iI a j))),(27,.own 0 0 l.length),(28,nI j),(29,.int .i64 (m5 j)),(30,.pown 0 (0+((m5 j)).toNat) 0 (a.map Tb.v).length),(31,.agg (Tb.cs (nB a j))),(32,.int .i64 (EM a j)),(33,.bool (decide ((EM a j)<0)))]) (fun _=>[.arr 13 (((a.set (0+j) (nB a j)).set (0+((m5 j)).toNat) (iI a j)).map Tb.v) 0]) ?_ ?_;apply qo;apply qr 1;refine qy (fd (a:=((j:Nat):Int)) (b:=1) kq ar ar) ?_ ?_ ?_;apply qr 1;apply qe;refine ab ⟨(q9 a j,j - 1),?_,?_,⟨⟨kq,kq,kq,kq,kq,(Eq.trans (b:=.int .i64 (((j:Nat):Int) - 1)) kq (by exact congrArg (aa.int .i64) oq)),trivial⟩,az,by simp,(Eq.trans (b:=[.arr 13 (((a.set (0+j) (a.getD (0+((((j:Nat):Int) - 1)).toNat) Tb.zero)).set (0+((((j:Nat):Int) - 1)).toNat) (a.getD (0+j) Tb.zero)).map Tb.v) 0]) kq (by (try dsimp only);rw [LH])),gd⟩⟩
 . try dsimp only
   omega
 . try dsimp only
   exact ⟨Lm hJ.1 aq aq,by rw [np];omega,by omega⟩
 iterate 46 kernel_rfl
 apply qf (decide_eq_false hb3);refine aK 2 kq kq ?_;apply ac;apply ac;apply au;apply ag;apply ab;apply zZ (mT [] [9,34]) id;apply qo;apply qr 1;refine qy (aA (a:=((i:Nat):Int)) (b:=1) kq ar ar) ?_ ?_ ?_;apply qr 1;apply qe;refine ab ⟨i+1,?_,?_,(fg kq (Eq.trans (b:=[.arr 13 (a.map Tb.v) 0]) kq PA) az gd)⟩
 . omega
 . omega
 iterate 27 kernel_rfl
 refine bL 20 (wm j) (.bool false) (bN aj) kq (congrArg aa.bool (decide_eq_false hb2)) ?_;refine bL 21 (wm j) (.bool false) (bN aj) kq (congrArg aa.bool (decide_eq_false hb2)) ?_;apply qu 13;refine bh kq ⟨kq,?_⟩;apply zE (mU [(22,.tup []),(23,.tup []),(24,.tup []),(25,.tup []),(26,.tup []),(27,.tup []),(28,.tup []),(29,.tup []),(30,.tup []),(31,.tup []),(32,.tup []),(33,.tup []),(34,.bool false)]) id;refine fM kq kq ?_;refine aK 2 kq kq ?_;apply ac;apply ac;apply au;apply ag;apply ab;apply zZ (mT [] [9,34]) id;apply qo;apply qr 1;refine qy (aA (a:=((i:Nat):Int)) (b:=1) kq ar ar) ?_ ?_ ?_;apply qr 1;apply qe;refine ab ⟨i+1,?_,?_,(fg kq (Eq.trans (b:=[.arr 13 (a.map Tb.v) 0]) kq PA) az gd)⟩
 . omega
 . omega
 iterate 22 kernel_rfl
 apply qf (decide_eq_false hb1);refine aK 0 kq kq ?_;apply ac;apply ac;apply au;refine cy (l:=[]) (.inl rfl) kq (by rfl) c5 c5 ?_ ?_;refine Eq.trans (b:=[.arr 13 ((fJ i l).map Tb.v) 0]) kq ?_
 . rw [Ga hi1 hi2 aq]
 . simp [ax.belO,aM,aa.bel,Ty.v,Ex.v,Ct.v,Co.v,Rf.v,Sm.v,Tb.v_cs,Sc.v,Md.v,Pb.v,Ls.v,-List.map_take,-List.map_drop,-List.map_append,-List.map_set]
 iterate 7 kernel_rfl
noncomputable def c84:Code:=aF Tryz.f84
theorem IL (l:List Tb) (lim:Int) (hl:l.length<=12):aE cx 84 [.own 0 0 l.length,.int .i64 0,.int .i64 ((l.length:Nat):Int),.int .i64 (lim),.fn (.func 34) [] []] [.arr 13 (l.map Tb.v) 0] (fun v h=>v=(.tup [])/\h=[.arr 13 ((fJ l.length l).map Tb.v) 0]):=by
 refine am (cx:=cx) 148 1 [] Tryz.func84 rfl rfl rfl rfl rfl zq ?_;show wpA cx 148 1 (at_ c84 []) _ _ _;refine zZ (fun _=>[(vK l),(1,.int .i64 0),(2,nI l.length),(3,.int .i64 (lim)),(4,.fn (.func 34) [] [])]) (fun _=>[.arr 13 (l.map Tb.v) 0]) ?_ ?_;apply zW 1 (mU [(10,.bool true)]) id;apply zW 1 (mU [(11,.bool true)]) id;apply qB 0;refine Oe 1 kq ?_;refine Pa ?_;apply qB 1;apply zV 2;refine qy (fd (a:=((l.length:Nat):Int)) (b:=0) kq ar ar) ?_ ?_ ?_;refine zR 1 (fun _=>[(vK l),(1,.int .i64 0),(2,nI l.length),(3,.int .i64 (lim)),(4,.fn (.func 34) [] []),(10,.bool true),(11,.bool true),(12,.int .i64 (((l.length:Nat):Int) - 0))]) (fun _=>[.arr 13 (l.map Tb.v) 0]) ?_ ?_;apply ao;apply zW 2 (mU [(25,.bool (decide ((((l.length:Nat):Int) - 0)<=12)))]) id;by_cases hb1:(((l.length:Nat):Int) - 0)<=12;apply qt (decide_eq_true hb1);apply zV 4;refine qA (IH l oq) gd gd rfl gd gd kq ?_;refine zN (fun _=>[]) (fun _=>[.arr 13 ((fJ l.length l).map Tb.v) 0]) ?_ ?_;refine bq kq ?_;apply aR;apply iR;apply aR;apply iR;refine cy (l:=[]) (.inr rfl) kq (by rfl) c5 c5 ?_ ?_;refine Eq.trans (b:=[.arr 13 ((fJ l.length l).map Tb.v) 0]) kq ?_
 . rfl
 . simp [ax.belO,aM,aa.bel,Ty.v,Ex.v,Ct.v,Co.v,Rf.v,Sm.v,Tb.v_cs,Sc.v,Md.v,Pb.v,Ls.v,-List.map_take,-List.map_drop,-List.map_append,-List.map_set]
 iterate 3 kernel_rfl
 . exfalso;omega
 iterate 13 kernel_rfl
noncomputable def c33:Code:=aF Tryz.f33
theorem IK (l:List Tb) (hl:l.length<=12):aE cx 33 [.own 0 0 l.length,.fn (.func 34) [] []] [.arr 13 (l.map Tb.v) 0] (fun v h=>v=(.tup [])/\h=[.arr 13 ((fJ l.length l).map Tb.v) 0]):=by
 refine am (cx:=cx) 14 1 [] Tryz.func33 rfl rfl rfl rfl rfl zq ?_;show wpA cx 14 1 (at_ c33 []) _ _ _;refine zZ (fun _=>[(vK l),(1,.fn (.func 34) [] [])]) (fun _=>[.arr 13 (l.map Tb.v) 0]) ?_ ?_;apply zV 1;refine qy (cU (o:=0) (off:=0) (len:=l.length) (sz:=13) (es:=(l.map Tb.v)) (fr:=0) kq b7 kq zq) ?_ ?_ ?_;refine zR 1 (fun _=>[(vK l),(1,.fn (.func 34) [] []),(4,nI l.length)]) (fun _=>[.arr 13 (l.map Tb.v) 0]) ?_ ?_;apply qo;apply qr 3;refine qy (GK (k:=.i64) (n:=((l.length:Nat):Int)) kq ty3 JY (by simp [IntKind.wrap,IntKind.bits,IntKind.signed];omega)) ?_ ?_ ?_;apply qc [.int .u64 ((l.length:Nat):Int)] (tF l.length ar);apply qr 1;refine qA (IL l (LS l.length) oq) gd gd rfl gd gd kq ?_;apply qe;refine cy (l:=[]) (.inl rfl) kq (by rfl) c5 c5 ?_ ?_;refine Eq.trans (b:=[.arr 13 ((fJ l.length l).map Tb.v) 0]) kq ?_
 . rfl
 . simp [ax.belO,aM,aa.bel,Ty.v,Ex.v,Ct.v,Co.v,Rf.v,Sm.v,Tb.v_cs,Sc.v,Md.v,Pb.v,Ls.v,-List.map_take,-List.map_drop,-List.map_append,-List.map_set]
 iterate 12 kernel_rfl
end Go.Proofs.YtcpklndelobigaaGreatDoor
