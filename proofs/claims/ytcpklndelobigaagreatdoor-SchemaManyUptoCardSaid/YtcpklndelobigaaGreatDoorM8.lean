/- SortFunc over fq by their names. Condition: at most twelve fq. -/
import Derived.Test.YtcpklndelobigaaGreatDoorM7
import Derived.Test.YtcpklndelobigaaGreatDoorS4
set_option linter.all false
namespace Go.Proofs.YtcpklndelobigaaGreatDoor
open Go.Proofs.YtcpklndelobigaaGreatDoor.Abs
set_option maxRecDepth 20000
set_option maxHeartbeats 4000000
noncomputable def c34:Code:=aT Tryz.f34
theorem w0 (a b:Tb) :ao cx 34 [Tb.v a,Tb.v b] (.int .i64 (e5 a.name b.name)):=by
 refine aC (cx:=cx) 10 0 [(ResultVar.tmp 4)] Tryz.func34 rfl rfl rfl rfl rfl zq ?_
 show wpA cx 10 0 (at_ c34 []) _ _ _
 refine qZ [(0,Tb.v a),(1,Tb.v b)] [] ?_ ?_
 refine qW 3 [(2,.ptr 0 0),(3,.ptr 1 0)] [.box (Tb.cs a),.box (Tb.cs b)] ?_ ?_
 refine qV 4 ?_ ?_
 refine qc [.str a.name,.str b.name] (jJ a.name b.name) ?_ ?_
 refine qX 1 ?_ ?_
 refine gp (n:=(e5 a.name b.name)) (.inr rfl) kq ?_
 · rfl
 iterate 5 kernel_rfl
theorem pL (a b:List UInt8):e5 a b<0↔aX a b=true:=by
 unfold e5
 cases aX a b <;> cases aX b a <;> decide
theorem jm1 {j:Nat}:(((j:Nat):Int) - 1).toNat=j - 1:=by omega
theorem Am (a:List Tb) (j:Nat):((a.set (0+j) (a.getD (0+(((j:Nat):Int) - 1).toNat) Tb.zero)).set (0+(((j:Nat):Int) - 1).toNat) (a.getD (0+j) Tb.zero))=lK a j:=by
 rw [jm1,Nat.zero_add,Nat.zero_add];rfl
theorem tM {a b:List Tb} {i j:Nat} (h:eU j a=eU i b) (hj:¬ ((j:Nat):Int) > 0):a=eU i b:=by
 have:j=0:=by omega
 subst this;exact h
theorem uM {a b:List Tb} {i j:Nat} (h:eU j a=eU i b) (hs:¬ (e5 (a.getD (0+j) Tb.zero).name (a.getD (0+(((j:Nat):Int) - 1).toNat) Tb.zero).name)<0):a=eU i b:=by
 cases j with
 | zero=>exact h
 | succ j =>
  rw [pL,jm1,Nat.zero_add,Nat.zero_add,Nat.add_sub_cancel] at hs
  rw [eU,if_neg hs] at h;exact h
theorem Ad {a b:List Tb} {i j:Nat} (h:eU j a=eU i b) (hj:((j:Nat):Int) > 0) (hs:(e5 (a.getD (0+j) Tb.zero).name (a.getD (0+(((j:Nat):Int) - 1).toNat) Tb.zero).name)<0):eU (j - 1) (lK a j)=eU i b:=by
 cases j with
 | zero=>omega
 | succ j =>
  rw [pL,jm1,Nat.zero_add,Nat.zero_add,Nat.add_sub_cancel] at hs
  rw [eU,if_pos hs] at h;exact h
theorem ws {l:List Tb} {i:Nat} (h1:1≤i) (h2:i≤l.length∨i=1) (h3:¬ ((i:Nat):Int)<((l.length:Nat):Int)):dE i l=dE l.length l:=by
 rcases h2 with h|h
 · have:i=l.length:=by omega
   rw [this]
 · subst h
   cases e:l.length with
   | zero=>rfl
   | succ n => have:n=0:=by omega
               rw [this]
def z7 (n:Nat):Int:=if n=0 then 0 else if n<2 then 1 else if n<4 then 2 else if n<8 then 3 else 4
theorem un (n:Nat) (hn:n≤12):ao cx 85 [.int .u64 ((n:Nat):Int)] (.int .i64 (z7 n)):=by
 match n,hn with
 | 0,_=>exact bq (p:=xp) cxM bA b8 60 false 85 [.int .u64 0] [] (.int .i64 0,[]) kq
 | 1,_=>exact bq (p:=xp) cxM bA b8 60 false 85 [.int .u64 1] [] (.int .i64 1,[]) kq
 | 2,_=>exact bq (p:=xp) cxM bA b8 60 false 85 [.int .u64 2] [] (.int .i64 2,[]) kq
 | 3,_=>exact bq (p:=xp) cxM bA b8 60 false 85 [.int .u64 3] [] (.int .i64 2,[]) kq
 | 4,_=>exact bq (p:=xp) cxM bA b8 60 false 85 [.int .u64 4] [] (.int .i64 3,[]) kq
 | 5,_=>exact bq (p:=xp) cxM bA b8 60 false 85 [.int .u64 5] [] (.int .i64 3,[]) kq
 | 6,_=>exact bq (p:=xp) cxM bA b8 60 false 85 [.int .u64 6] [] (.int .i64 3,[]) kq
 | 7,_=>exact bq (p:=xp) cxM bA b8 60 false 85 [.int .u64 7] [] (.int .i64 3,[]) kq
 | 8,_=>exact bq (p:=xp) cxM bA b8 60 false 85 [.int .u64 8] [] (.int .i64 4,[]) kq
 | 9,_=>exact bq (p:=xp) cxM bA b8 60 false 85 [.int .u64 9] [] (.int .i64 4,[]) kq
 | 10,_=>exact bq (p:=xp) cxM bA b8 60 false 85 [.int .u64 10] [] (.int .i64 4,[]) kq
 | 11,_=>exact bq (p:=xp) cxM bA b8 60 false 85 [.int .u64 11] [] (.int .i64 4,[]) kq
 | 12,_=>exact bq (p:=xp) cxM bA b8 60 false 85 [.int .u64 12] [] (.int .i64 4,[]) kq
 | n+13,h=>exact absurd h oq
noncomputable def CN:Code:=aT Tryz.f154
theorem Ce {p:Prop} (h:p:=by simp [Ty.v,Ex.v,Ct.v,Co.v,Rf.v,Sm.v,Tb.v_cs,Sc.v,Md.v,Pb.v,Ls.v,-List.map_take,-List.map_drop,-List.map_append]):p:=h
theorem AU {p:Prop} (h:p:=by (first|rw [tM hJ.1 aq]|rw [uM hJ.1 aq]);show _=_;kernel_rfl):p:=h
theorem uz {p:Prop} (h:p:=by simp [hal,hil]):p:=h
theorem w4 {p:Prop} (h:p:=by rw [cV];exact kq):p:=h
theorem xk (l:List Tb) (hl:l.length<1000):aL cx 154 [.own 0 0 l.length,.int .i64 0,.int .i64 ((l.length:Nat):Int),.fn (.func 34) [] []] [.arr 13 (l.map Tb.v) 0] (fun v h=>v=(.tup [])∧h=[.arr 13 ((dE l.length l).map Tb.v) 0]):=by
 refine aC (cx:=cx) 53 1 [] Tryz.func154 rfl rfl rfl rfl rfl zq ?_
 show wpA cx 53 1 (at_ CN []) _ _ _
 refine qZ [(0,.own 0 0 l.length),(1,.int .i64 0),(2,nI l.length),(3,.fn (.func 34) [] [])] [.arr 13 (l.map Tb.v) 0] ?_ ?_
 refine qU 3 [(0,.own 0 0 l.length),(1,.int .i64 0),(2,nI l.length),(3,.fn (.func 34) [] []),(8,.int .i64 1)] ?_ ?_
 refine qB 0 ?_ ?_ ?_
 refine bn (σ:=Nat) (fun i=>[(0,.own 0 0 l.length),(1,.int .i64 0),(2,.int .i64 ((l.length:Nat):Int)),(3,.fn (.func 34) [] []),(8,.int .i64 ((i:Nat):Int))]) (fun i=>[.arr 13 ((dE i l).map Tb.v) 0]) (fun i=>1≤i∧(i≤l.length∨i=1)) (fun i=>l.length - i) 1 kq oq ⟨⟨kq,kq,kq,kq,kq,trivial⟩,by simp [aG,aa.bel],by simp,(Eq.trans (b:=[.arr 13 (l.map Tb.v) 0]) kq (by show _=_;kernel_rfl)),by simp [ai.belO,av,aa.bel,Ty.v,Ex.v,Ct.v,Co.v,Rf.v,Sm.v,Tb.v_cs,Sc.v,Md.v,Pb.v,Ls.v,-List.map_take,-List.map_drop,-List.map_append,-List.map_set]⟩ ?_
 rintro i ⟨hi1,hi2⟩
 have hil:=fM l i
 refine az ?_ ?_
 refine qW 3 [(0,.own 0 0 l.length),(1,.int .i64 0),(2,nI l.length),(3,.fn (.func 34) [] []),(8,nI i),(14,.bool (decide (((i:Nat):Int)<((l.length:Nat):Int))))] [.arr 13 ((dE i l).map Tb.v) 0] ?_ ?_
 by_cases hb1:((i:Nat):Int)<((l.length:Nat):Int)
 refine qt (decide_eq_true hb1) ?_ ?_
 refine qK ?_ ?_
 refine qz [(0,.own 0 0 l.length),(1,.int .i64 0),(2,nI l.length),(3,.fn (.func 34) [] []),(8,nI i)] ?_ ?_
 refine az ?_ ?_
 refine qB 1 ?_ ?_ ?_
 refine qU 2 [(0,.own 0 0 l.length),(1,.int .i64 0),(2,nI l.length),(3,.fn (.func 34) [] []),(8,nI i),(9,nI i)] ?_ ?_
 refine qB 2 ?_ ?_ ?_
 refine bn (σ:=(List Tb×Nat)) (fun ⟨a,j⟩=>[(0,.own 0 0 l.length),(1,.int .i64 0),(2,.int .i64 ((l.length:Nat):Int)),(3,.fn (.func 34) [] []),(8,.int .i64 ((i:Nat):Int)),(9,.int .i64 ((j:Nat):Int))]) (fun ⟨a,j⟩=>[.arr 13 (a.map Tb.v) 0]) (fun ⟨a,j⟩=>eU j a=eU i (dE i l)∧a.length=l.length∧j≤i) (fun ⟨a,j⟩=>j) (dE i l,i) kq (by exact ⟨rfl,hil,Nat.le_refl _⟩) ⟨⟨kq,kq,kq,kq,kq,kq,trivial⟩,by simp [aG,aa.bel],by simp,kq,by simp [ai.belO,av,aa.bel,Ty.v,Ex.v,Ct.v,Co.v,Rf.v,Sm.v,Tb.v_cs,Sc.v,Md.v,Pb.v,Ls.v,-List.map_take,-List.map_drop,-List.map_append,-List.map_set]⟩ ?_
 rintro ⟨a,j⟩ hJ
 have hal:=hJ.2.1
 have hji:=hJ.2.2
 refine qZ [(0,.own 0 0 l.length),(1,.int .i64 0),(2,nI l.length),(3,.fn (.func 34) [] []),(8,nI i),(9,nI j)] [.arr 13 (a.map Tb.v) 0] ?_ ?_
 refine az ?_ ?_
 refine az ?_ ?_
 refine b6 cxM kq ap (aU ?_)
 refine qu 4 ?_ ?_
 by_cases hb2:((j:Nat):Int) > 0
 refine bQ 20 (.bool (decide (((j:Nat):Int) > 0))) (.bool true) (bO ap) kq (congrArg aa.bool (decide_eq_true hb2)) ?_
 refine bQ 21 (.bool (decide (((j:Nat):Int) > 0))) (.bool true) (bO ap) kq (congrArg aa.bool (decide_eq_true hb2)) ?_
 refine qu 3 ?_ ?_
 refine qd (eB (k:=.i64) (i:=((j:Nat):Int)) (o:=0) (off:=0) (len:=l.length) (sz:=13) (fr:=0) (es:=(a.map Tb.v)) kq bW cz kq rfl uz oq oq) ?_ ?_ ?_ ?_
 refine qd (im (t:=52) (o:=0) (idx:=(0+j)) (off:=0) (k:=((a.map Tb.v).length)) (sz:=13) (fr:=0) (es:=(a.map Tb.v)) (x:=Tb.v (a.getD (0+j) Tb.zero)) (v:=.agg (Tb.cs (a.getD (0+j) Tb.zero))) kq kq zq (hZ _ _ _ _ oq) w4) ?_ ?_ ?_ ?_
 refine qu 2 ?_ ?_
 refine qd (lJ (a:=((j:Nat):Int)) (b:=1) kq oq oq) ?_ ?_ ?_ ?_
 refine qd (eB (k:=.i64) (i:=(((j:Nat):Int) - 1)) (o:=0) (off:=0) (len:=l.length) (sz:=13) (fr:=0) (es:=(a.map Tb.v)) kq bW cz kq rfl uz oq oq) ?_ ?_ ?_ ?_
 refine qd (im (t:=52) (o:=0) (idx:=(0+((((j:Nat):Int) - 1)).toNat)) (off:=0) (k:=((a.map Tb.v).length)) (sz:=13) (fr:=0) (es:=(a.map Tb.v)) (x:=Tb.v (a.getD (0+((((j:Nat):Int) - 1)).toNat) Tb.zero)) (v:=.agg (Tb.cs (a.getD (0+((((j:Nat):Int) - 1)).toNat) Tb.zero))) kq kq zq (hZ _ _ _ _ oq) w4) ?_ ?_ ?_ ?_
 refine cc (args:=[.agg (Tb.cs (a.getD (0+j) Tb.zero)),.agg (Tb.cs (a.getD (0+((((j:Nat):Int) - 1)).toNat) Tb.zero))]) kq kq kq kq kq (w0 (a.getD (0+j) Tb.zero) (a.getD (0+((((j:Nat):Int) - 1)).toNat) Tb.zero)) (by intro _;simp [Ty.v,Ex.v,Ct.v,Co.v,Rf.v,Sm.v,Tb.v_cs,Sc.v,Md.v,Pb.v,Ls.v,-List.map_take,-List.map_drop,-List.map_append]) Ce Ce ?_
 refine qu 2 ?_ ?_
 refine bG kq ⟨kq,?_⟩
 refine ab ?_
 refine qZ [(0,.own 0 0 l.length),(1,.int .i64 0),(2,nI l.length),(3,.fn (.func 34) [] []),(8,nI i),(9,nI j),(22,.fn (.func 34) [] []),(23,.own 0 0 l.length),(24,nI j),(25,.pown 0 (0+j) 0 (a.map Tb.v).length),(26,.agg (Tb.cs (a.getD (0+j) Tb.zero))),(27,.own 0 0 l.length),(28,nI j),(29,.int .i64 (((j:Nat):Int) - 1)),(30,.pown 0 (0+((((j:Nat):Int) - 1)).toNat) 0 (a.map Tb.v).length),(31,.agg (Tb.cs (a.getD (0+((((j:Nat):Int) - 1)).toNat) Tb.zero))),(32,.int .i64 (e5 (a.getD (0+j) Tb.zero).name (a.getD (0+((((j:Nat):Int) - 1)).toNat) Tb.zero).name)),(33,.bool (decide ((e5 (a.getD (0+j) Tb.zero).name (a.getD (0+((((j:Nat):Int) - 1)).toNat) Tb.zero).name)<0))),(34,.bool (decide ((e5 (a.getD (0+j) Tb.zero).name (a.getD (0+((((j:Nat):Int) - 1)).toNat) Tb.zero).name)<0)))] [.arr 13 (a.map Tb.v) 0] ?_ ?_
 by_cases hb3:(e5 (a.getD (0+j) Tb.zero).name (a.getD (0+((((j:Nat):Int) - 1)).toNat) Tb.zero).name)<0
 refine qt (decide_eq_true hb3) ?_ ?_
 refine qK ?_ ?_
 refine qz [(0,.own 0 0 l.length),(1,.int .i64 0),(2,nI l.length),(3,.fn (.func 34) [] []),(8,nI i),(9,nI j),(22,.fn (.func 34) [] []),(23,.own 0 0 l.length),(24,nI j),(25,.pown 0 (0+j) 0 (a.map Tb.v).length),(26,.agg (Tb.cs (a.getD (0+j) Tb.zero))),(27,.own 0 0 l.length),(28,nI j),(29,.int .i64 (((j:Nat):Int) - 1)),(30,.pown 0 (0+((((j:Nat):Int) - 1)).toNat) 0 (a.map Tb.v).length),(31,.agg (Tb.cs (a.getD (0+((((j:Nat):Int) - 1)).toNat) Tb.zero))),(32,.int .i64 (e5 (a.getD (0+j) Tb.zero).name (a.getD (0+((((j:Nat):Int) - 1)).toNat) Tb.zero).name)),(33,.bool (decide ((e5 (a.getD (0+j) Tb.zero).name (a.getD (0+((((j:Nat):Int) - 1)).toNat) Tb.zero).name)<0)))] ?_ ?_
 refine az ?_ ?_
 refine qB 3 ?_ ?_ ?_
 refine b6 cxM kq (dL ap) (aU ?_)
 refine qu 4 ?_ ?_
 refine qd (lJ (a:=((j:Nat):Int)) (b:=1) kq oq oq) ?_ ?_ ?_ ?_
 refine qu 2 ?_ ?_
 refine qd (lJ (a:=((j:Nat):Int)) (b:=1) kq oq oq) ?_ ?_ ?_ ?_
 refine qd (eB (k:=.i64) (i:=(((j:Nat):Int) - 1)) (o:=0) (off:=0) (len:=l.length) (sz:=13) (fr:=0) (es:=(a.map Tb.v)) kq bW cz kq rfl uz oq oq) ?_ ?_ ?_ ?_
 refine qd (im (t:=52) (o:=0) (idx:=(0+((((j:Nat):Int) - 1)).toNat)) (off:=0) (k:=((a.map Tb.v).length)) (sz:=13) (fr:=0) (es:=(a.map Tb.v)) (x:=Tb.v (a.getD (0+((((j:Nat):Int) - 1)).toNat) Tb.zero)) (v:=.agg (Tb.cs (a.getD (0+((((j:Nat):Int) - 1)).toNat) Tb.zero))) kq kq zq (hZ _ _ _ _ oq) w4) ?_ ?_ ?_ ?_
 refine qu 2 ?_ ?_
 refine qd (eB (k:=.i64) (i:=((j:Nat):Int)) (o:=0) (off:=0) (len:=l.length) (sz:=13) (fr:=0) (es:=(a.map Tb.v)) kq bW cz kq rfl uz oq oq) ?_ ?_ ?_ ?_
 refine qd (im (t:=52) (o:=0) (idx:=(0+j)) (off:=0) (k:=((a.map Tb.v).length)) (sz:=13) (fr:=0) (es:=(a.map Tb.v)) (x:=Tb.v (a.getD (0+j) Tb.zero)) (v:=.agg (Tb.cs (a.getD (0+j) Tb.zero))) kq kq zq (hZ _ _ _ _ oq) w4) ?_ ?_ ?_ ?_
 refine qd (eB (k:=.i64) (i:=((j:Nat):Int)) (o:=0) (off:=0) (len:=l.length) (sz:=13) (fr:=0) (es:=(a.map Tb.v)) kq bW cz kq rfl uz oq oq) ?_ ?_ ?_ ?_
 refine qD (nK (o:=0) (k:=((a.map Tb.v).length)) (x:=.agg (Tb.cs (a.getD (0+((((j:Nat):Int) - 1)).toNat) Tb.zero))) (enc:=Tb.v) (l:=a) (X:=(a.getD (0+((((j:Nat):Int) - 1)).toNat) Tb.zero)) (d:=Tb.zero) (idx:=(0+j)) (sz:=13) kq (Tb.v_v (a.getD (0+((((j:Nat):Int) - 1)).toNat) Tb.zero)).symm kq zq oq cz rb od) ?_ ?_ ?_ ?_
 refine qd (eB (k:=.i64) (i:=(((j:Nat):Int) - 1)) (o:=0) (off:=0) (len:=l.length) (sz:=13) (fr:=0) (es:=((a.set (0+j) (a.getD (0+((((j:Nat):Int) - 1)).toNat) Tb.zero)).map Tb.v)) kq bW cz kq rfl uz oq oq) ?_ ?_ ?_ ?_
 refine qD (nK (o:=0) (k:=(((a.set (0+j) (a.getD (0+((((j:Nat):Int) - 1)).toNat) Tb.zero)).map Tb.v).length)) (x:=.agg (Tb.cs (a.getD (0+j) Tb.zero))) (enc:=Tb.v) (l:=(a.set (0+j) (a.getD (0+((((j:Nat):Int) - 1)).toNat) Tb.zero))) (X:=(a.getD (0+j) Tb.zero)) (d:=Tb.zero) (idx:=(0+((((j:Nat):Int) - 1)).toNat)) (sz:=13) kq (Tb.v_v (a.getD (0+j) Tb.zero)).symm kq zq (by simp;omega) cz rb od) ?_ ?_ ?_ ?_
 refine bG kq ⟨kq,?_⟩
 refine ah ?_
 refine ab ?_
 refine qZ [(0,.own 0 0 l.length),(1,.int .i64 0),(2,nI l.length),(3,.fn (.func 34) [] []),(8,nI i),(9,nI j),(22,.fn (.func 34) [] []),(23,.own 0 0 l.length),(24,nI j),(25,.pown 0 (0+j) 0 (a.map Tb.v).length),(26,.agg (Tb.cs (a.getD (0+j) Tb.zero))),(27,.own 0 0 l.length),(28,nI j),(29,.int .i64 (((j:Nat):Int) - 1)),(30,.pown 0 (0+((((j:Nat):Int) - 1)).toNat) 0 (a.map Tb.v).length),(31,.agg (Tb.cs (a.getD (0+((((j:Nat):Int) - 1)).toNat) Tb.zero))),(32,.int .i64 (e5 (a.getD (0+j) Tb.zero).name (a.getD (0+((((j:Nat):Int) - 1)).toNat) Tb.zero).name)),(33,.bool (decide ((e5 (a.getD (0+j) Tb.zero).name (a.getD (0+((((j:Nat):Int) - 1)).toNat) Tb.zero).name)<0)))] [.arr 13 (((a.set (0+j) (a.getD (0+((((j:Nat):Int) - 1)).toNat) Tb.zero)).set (0+((((j:Nat):Int) - 1)).toNat) (a.getD (0+j) Tb.zero)).map Tb.v) 0] ?_ ?_
 refine qo ?_ ?_
 refine qr 1 ?_ ?_
 refine qy (lJ (a:=((j:Nat):Int)) (b:=1) kq oq oq) ?_ ?_ ?_
 refine qr 1 ?_ ?_
 refine qe ?_ ?_
 refine ab ⟨(lK a j,j - 1),?_,?_,⟨⟨kq,kq,kq,kq,kq,(Eq.trans (b:=.int .i64 (((j:Nat):Int) - 1)) kq (by exact congrArg (aa.int .i64) oq)),trivial⟩,by simp [aG,aa.bel],by simp,(Eq.trans (b:=[.arr 13 (((a.set (0+j) (a.getD (0+((((j:Nat):Int) - 1)).toNat) Tb.zero)).set (0+((((j:Nat):Int) - 1)).toNat) (a.getD (0+j) Tb.zero)).map Tb.v) 0]) kq (by (try dsimp only);rw [Am])),by simp [ai.belO,av,aa.bel,Ty.v,Ex.v,Ct.v,Co.v,Rf.v,Sm.v,Tb.v_cs,Sc.v,Md.v,Pb.v,Ls.v,-List.map_take,-List.map_drop,-List.map_append,-List.map_set]⟩⟩
 · try dsimp only
   omega
 · try dsimp only
   exact ⟨Ad hJ.1 aq aq,by rw [ju];omega,by omega⟩
 iterate 46 kernel_rfl
 refine qf (decide_eq_false hb3) ?_ ?_
 refine a6 2 kq kq ?_
 refine af ?_
 refine af ?_
 refine aE ?_
 refine ah ?_
 refine ab ?_
 refine qz [(0,.own 0 0 l.length),(1,.int .i64 0),(2,nI l.length),(3,.fn (.func 34) [] []),(8,nI i),(22,.fn (.func 34) [] []),(23,.own 0 0 l.length),(24,nI j),(25,.pown 0 (0+j) 0 (a.map Tb.v).length),(26,.agg (Tb.cs (a.getD (0+j) Tb.zero))),(27,.own 0 0 l.length),(28,nI j),(29,.int .i64 (((j:Nat):Int) - 1)),(30,.pown 0 (0+((((j:Nat):Int) - 1)).toNat) 0 (a.map Tb.v).length),(31,.agg (Tb.cs (a.getD (0+((((j:Nat):Int) - 1)).toNat) Tb.zero))),(32,.int .i64 (e5 (a.getD (0+j) Tb.zero).name (a.getD (0+((((j:Nat):Int) - 1)).toNat) Tb.zero).name)),(33,.bool (decide ((e5 (a.getD (0+j) Tb.zero).name (a.getD (0+((((j:Nat):Int) - 1)).toNat) Tb.zero).name)<0)))] ?_ ?_
 refine qo ?_ ?_
 refine qr 1 ?_ ?_
 refine qy (aI (a:=((i:Nat):Int)) (b:=1) kq oq oq) ?_ ?_ ?_
 refine qr 1 ?_ ?_
 refine qe ?_ ?_
 refine ab ⟨i+1,?_,?_,⟨⟨kq,kq,kq,kq,kq,trivial⟩,by simp [aG,aa.bel],by simp,(Eq.trans (b:=[.arr 13 (a.map Tb.v) 0]) kq AU),by simp [ai.belO,av,aa.bel,Ty.v,Ex.v,Ct.v,Co.v,Rf.v,Sm.v,Tb.v_cs,Sc.v,Md.v,Pb.v,Ls.v,-List.map_take,-List.map_drop,-List.map_append,-List.map_set]⟩⟩
 · omega
 · omega
 iterate 27 kernel_rfl
 refine bQ 20 (.bool (decide (((j:Nat):Int) > 0))) (.bool false) (bO ap) kq (congrArg aa.bool (decide_eq_false hb2)) ?_
 refine bQ 21 (.bool (decide (((j:Nat):Int) > 0))) (.bool false) (bO ap) kq (congrArg aa.bool (decide_eq_false hb2)) ?_
 refine qu 13 ?_ ?_
 refine bG kq ⟨kq,?_⟩
 refine ab ?_
 refine qZ [(0,.own 0 0 l.length),(1,.int .i64 0),(2,nI l.length),(3,.fn (.func 34) [] []),(8,nI i),(9,nI j),(22,.tup []),(23,.tup []),(24,.tup []),(25,.tup []),(26,.tup []),(27,.tup []),(28,.tup []),(29,.tup []),(30,.tup []),(31,.tup []),(32,.tup []),(33,.tup []),(34,.bool false)] [.arr 13 (a.map Tb.v) 0] ?_ ?_
 refine nC kq kq ?_
 refine a6 2 kq kq ?_
 refine af ?_
 refine af ?_
 refine aE ?_
 refine ah ?_
 refine ab ?_
 refine qz [(0,.own 0 0 l.length),(1,.int .i64 0),(2,nI l.length),(3,.fn (.func 34) [] []),(8,nI i),(22,.tup []),(23,.tup []),(24,.tup []),(25,.tup []),(26,.tup []),(27,.tup []),(28,.tup []),(29,.tup []),(30,.tup []),(31,.tup []),(32,.tup []),(33,.tup [])] ?_ ?_
 refine qo ?_ ?_
 refine qr 1 ?_ ?_
 refine qy (aI (a:=((i:Nat):Int)) (b:=1) kq oq oq) ?_ ?_ ?_
 refine qr 1 ?_ ?_
 refine qe ?_ ?_
 refine ab ⟨i+1,?_,?_,⟨⟨kq,kq,kq,kq,kq,trivial⟩,by simp [aG,aa.bel],by simp,(Eq.trans (b:=[.arr 13 (a.map Tb.v) 0]) kq AU),by simp [ai.belO,av,aa.bel,Ty.v,Ex.v,Ct.v,Co.v,Rf.v,Sm.v,Tb.v_cs,Sc.v,Md.v,Pb.v,Ls.v,-List.map_take,-List.map_drop,-List.map_append,-List.map_set]⟩⟩
 · omega
 · omega
 iterate 22 kernel_rfl
 refine qf (decide_eq_false hb1) ?_ ?_
 refine a6 0 kq kq ?_
 refine af ?_
 refine af ?_
 refine aE ?_
 refine dg (l:=[]) (.inl rfl) kq (by rfl) (by simp [a8]) (by simp [a8]) ?_ ?_
 refine Eq.trans (b:=[.arr 13 ((dE i l).map Tb.v) 0]) kq ?_
 · rw [ws hi1 hi2 aq]
 · simp [ai.belO,av,aa.bel,Ty.v,Ex.v,Ct.v,Co.v,Rf.v,Sm.v,Tb.v_cs,Sc.v,Md.v,Pb.v,Ls.v,-List.map_take,-List.map_drop,-List.map_append,-List.map_set]
 iterate 7 kernel_rfl
noncomputable def c84:Code:=aT Tryz.f84
theorem o9 {p:Prop} (h:p:=by simp [ai.belO,av,aa.bel,Ty.v,Ex.v,Ct.v,Co.v,Rf.v,Sm.v,Tb.v_cs,Sc.v,Md.v,Pb.v,Ls.v,-List.map_take,-List.map_drop,-List.map_append,-List.map_set]):p:=h
theorem xn (l:List Tb) (lim:Int) (hl:l.length≤12):aL cx 84 [.own 0 0 l.length,.int .i64 0,.int .i64 ((l.length:Nat):Int),.int .i64 (lim),.fn (.func 34) [] []] [.arr 13 (l.map Tb.v) 0] (fun v h=>v=(.tup [])∧h=[.arr 13 ((dE l.length l).map Tb.v) 0]):=by
 refine aC (cx:=cx) 148 1 [] Tryz.func84 rfl rfl rfl rfl rfl zq ?_
 show wpA cx 148 1 (at_ c84 []) _ _ _
 refine qZ [(0,.own 0 0 l.length),(1,.int .i64 0),(2,nI l.length),(3,.int .i64 (lim)),(4,.fn (.func 34) [] [])] [.arr 13 (l.map Tb.v) 0] ?_ ?_
 refine qU 1 [(0,.own 0 0 l.length),(1,.int .i64 0),(2,nI l.length),(3,.int .i64 (lim)),(4,.fn (.func 34) [] []),(10,.bool true)] ?_ ?_
 refine qU 1 [(0,.own 0 0 l.length),(1,.int .i64 0),(2,nI l.length),(3,.int .i64 (lim)),(4,.fn (.func 34) [] []),(10,.bool true),(11,.bool true)] ?_ ?_
 refine qB 0 ?_ ?_ ?_
 refine CS 1 kq ?_
 refine CI ?_
 refine qB 1 ?_ ?_ ?_
 refine qV 2 ?_ ?_
 refine qy (lJ (a:=((l.length:Nat):Int)) (b:=0) kq oq oq) ?_ ?_ ?_
 refine qR 1 [(0,.own 0 0 l.length),(1,.int .i64 0),(2,nI l.length),(3,.int .i64 (lim)),(4,.fn (.func 34) [] []),(10,.bool true),(11,.bool true),(12,.int .i64 (((l.length:Nat):Int) - 0))] [.arr 13 (l.map Tb.v) 0] ?_ ?_
 refine az ?_ ?_
 refine qU 2 [(0,.own 0 0 l.length),(1,.int .i64 0),(2,nI l.length),(3,.int .i64 (lim)),(4,.fn (.func 34) [] []),(10,.bool true),(11,.bool true),(12,.int .i64 (((l.length:Nat):Int) - 0)),(25,.bool (decide ((((l.length:Nat):Int) - 0)≤12)))] ?_ ?_
 by_cases hb1:(((l.length:Nat):Int) - 0)≤12
 refine qt (decide_eq_true hb1) ?_ ?_
 refine qV 4 ?_ ?_
 refine b7 (args:=[.own 0 0 l.length,.int .i64 0,.int .i64 ((l.length:Nat):Int),.fn (.func 34) [] []]) (hs:=[.arr 13 (l.map Tb.v) 0]) (hs':=[.arr 13 ((dE l.length l).map Tb.v) 0]) (rest:=[]) kq kq kq kq kq (xk l oq) o9 o9 rfl o9 o9 kq ?_
 refine qN [] [.arr 13 ((dE l.length l).map Tb.v) 0] ?_ ?_
 refine cK kq ?_
 apply aR
 apply iR
 apply aR
 apply iR
 refine dg (l:=[]) (.inr rfl) kq (by rfl) (by simp [a8]) (by simp [a8]) ?_ ?_
 refine Eq.trans (b:=[.arr 13 ((dE l.length l).map Tb.v) 0]) kq ?_
 · rfl
 · simp [ai.belO,av,aa.bel,Ty.v,Ex.v,Ct.v,Co.v,Rf.v,Sm.v,Tb.v_cs,Sc.v,Md.v,Pb.v,Ls.v,-List.map_take,-List.map_drop,-List.map_append,-List.map_set]
 iterate 3 kernel_rfl
 · exfalso;omega
 iterate 13 kernel_rfl
noncomputable def c33:Code:=aT Tryz.f33
theorem xM (l:List Tb) (hl:l.length≤12):aL cx 33 [.own 0 0 l.length,.fn (.func 34) [] []] [.arr 13 (l.map Tb.v) 0] (fun v h=>v=(.tup [])∧h=[.arr 13 ((dE l.length l).map Tb.v) 0]):=by
 refine aC (cx:=cx) 14 1 [] Tryz.func33 rfl rfl rfl rfl rfl zq ?_
 show wpA cx 14 1 (at_ c33 []) _ _ _
 refine qZ [(0,.own 0 0 l.length),(1,.fn (.func 34) [] [])] [.arr 13 (l.map Tb.v) 0] ?_ ?_
 refine qV 1 ?_ ?_
 refine qy (gG (o:=0) (off:=0) (len:=l.length) (sz:=13) (es:=(l.map Tb.v)) (fr:=0) kq bW kq zq) ?_ ?_ ?_
 refine qR 1 [(0,.own 0 0 l.length),(1,.fn (.func 34) [] []),(4,nI l.length)] [.arr 13 (l.map Tb.v) 0] ?_ ?_
 refine qo ?_ ?_
 refine qr 3 ?_ ?_
 refine qy (As (k:=.i64) (n:=((l.length:Nat):Int)) kq ty3 Bh (by simp [IntKind.wrap,IntKind.bits,IntKind.signed];omega)) ?_ ?_ ?_
 refine qc [.int .u64 ((l.length:Nat):Int)] (un l.length oq) ?_ ?_
 refine qr 1 ?_ ?_
 refine b7 (args:=[.own 0 0 l.length,.int .i64 0,.int .i64 ((l.length:Nat):Int),.int .i64 (z7 l.length),.fn (.func 34) [] []]) (hs:=[.arr 13 (l.map Tb.v) 0]) (hs':=[.arr 13 ((dE l.length l).map Tb.v) 0]) (rest:=[]) kq kq kq kq kq (xn l (z7 l.length) oq) o9 o9 rfl o9 o9 kq ?_
 refine qe ?_ ?_
 refine dg (l:=[]) (.inl rfl) kq (by rfl) (by simp [a8]) (by simp [a8]) ?_ ?_
 refine Eq.trans (b:=[.arr 13 ((dE l.length l).map Tb.v) 0]) kq ?_
 · rfl
 · simp [ai.belO,av,aa.bel,Ty.v,Ex.v,Ct.v,Co.v,Rf.v,Sm.v,Tb.v_cs,Sc.v,Md.v,Pb.v,Ls.v,-List.map_take,-List.map_drop,-List.map_append,-List.map_set]
 iterate 12 kernel_rfl
end Go.Proofs.YtcpklndelobigaaGreatDoor
