/- SortFunc over Z by their names. Condition: at most twelve Z. -/
import Derived.Test.YtcpklndelobigaaGreatDoorM8
set_option linter.all false
namespace Go.Proofs.YtcpklndelobigaaGreatDoor
open Go.Proofs.YtcpklndelobigaaGreatDoor.Abs
set_option maxRecDepth 20000
set_option maxHeartbeats 4000000
theorem Sm.v_v (t:Sm):t.v=.agg [.str t.name,.imm (t.ctors.map Ct.v)]:=rfl
theorem GA (t:Sm):t.v.cells.length=2/\t.v.cells.all aa.cellOk=true:=⟨rfl,rfl⟩
theorem AK (p q:Sm):p.v.withCells q.v.cells=some q.v:=rfl
noncomputable def c73:Code:=aF Tryz.f73
theorem H7 (a b:Sm) :af cx 73 [Sm.v a,Sm.v b] (.int .i64 (gk a.name b.name)):=by
 refine am (cx:=cx) 10 0 [(ResultVar.tmp 4)] Tryz.func73 rfl rfl rfl rfl rfl zq ?_;show wpA cx 10 0 (at_ c73 []) _ _ _;refine zZ (fun _=>[(0,Sm.v a),(1,Sm.v b)]) (fun _=>[]) ?_ ?_;refine zW 3 (fun _=>[(2,.ptr 0 0),(3,.ptr 1 0)]) (fun _=>[.box [.str a.name,.imm (a.ctors.map Ct.v)],.box [.str b.name,.imm (b.ctors.map Ct.v)]]) ?_ ?_;apply zV 4;apply qc [.str a.name,.str b.name] (jT a.name b.name);apply qX 1;refine fe (n:=(gk a.name b.name)) (.inr rfl) kq ?_
 . rfl
 iterate 5 kernel_rfl
theorem IP (a:List Sm) (j:Nat):((a.set (0+j) (a.getD (0+(((j:Nat):Int) - 1).toNat) Sm.zero)).set (0+(((j:Nat):Int) - 1).toNat) (a.getD (0+j) Sm.zero))=sB a j:=by
 rw [jm1,Nat.zero_add,Nat.zero_add];rfl
theorem Ic {a b:List Sm} {i j:Nat} (h:iB j a=iB i b) (hj:¬ ((j:Nat):Int) > 0):a=iB i b:=by
 have:j=0:=by omega
 subst this;exact h
theorem H4 {a b:List Sm} {i j:Nat} (h:iB j a=iB i b) (hs:¬ (gk (a.getD (0+j) Sm.zero).name (a.getD (0+(((j:Nat):Int) - 1).toNat) Sm.zero).name)<0):a=iB i b:=by
 cases j with
 | zero=>exact h
 | succ j =>
  rw [nd,jm1,Nat.zero_add,Nat.zero_add,Nat.add_sub_cancel] at hs;rw [iB,if_neg hs] at h;exact h
theorem HH {a b:List Sm} {i j:Nat} (h:iB j a=iB i b) (hj:((j:Nat):Int) > 0) (hs:(gk (a.getD (0+j) Sm.zero).name (a.getD (0+(((j:Nat):Int) - 1).toNat) Sm.zero).name)<0):iB (j - 1) (sB a j)=iB i b:=by
 cases j with
 | zero=>omega
 | succ j =>
  rw [nd,jm1,Nat.zero_add,Nat.zero_add,Nat.add_sub_cancel] at hs;rw [iB,if_pos hs] at h;exact h
theorem Ev {l:List Sm} {i:Nat} (h1:1<=i) (h2:i<=l.length\/i=1) (h3:¬ ((i:Nat):Int)<((l.length:Nat):Int)):fP i l=fP l.length l:=by
 rcases h2 with h|h
 . have:i=l.length:=by omega
   rw [this]
 . subst h;cases e:l.length with
   | zero=>rfl
   | succ n => have:n=0:=by omega
               rw [this]
noncomputable def RK:Code:=aF Tryz.f199
abbrev pL (a:List Sm)(j:Nat):=(a.getD (0+((m5 j)).toNat) Sm.zero)
abbrev Ie (a:List Sm)(j:Nat):List aa:=[.str (a.getD (0+j) Sm.zero).name,.imm ((a.getD (0+j) Sm.zero).ctors.map Ct.v)]
abbrev Il (a:List Sm)(j:Nat):List aa:=[.str (pL a j).name,.imm ((pL a j).ctors.map Ct.v)]
abbrev yo (a:List Sm)(j:Nat):=(a.getD (0+j) Sm.zero)
theorem Pw {p:Prop} (h:p:=by (first|rw [Ic hJ.1 aq]|rw [H4 hJ.1 aq]);show _=_;kernel_rfl):p:=h
theorem HW {p:Prop} (h:p:=by rw [dQ];exact kq):p:=h
theorem ES (l:List Sm) (hl:l.length<1000):aE cx 199 [.own 0 0 l.length,.int .i64 0,.int .i64 ((l.length:Nat):Int),.fn (.func 73) [] []] [.arr 2 (l.map Sm.v) 0] (fun v h=>v=(.tup [])/\h=[.arr 2 ((fP l.length l).map Sm.v) 0]):=by
 refine am (cx:=cx) 53 1 [] Tryz.func199 rfl rfl rfl rfl rfl zq ?_;show wpA cx 53 1 (at_ RK []) _ _ _;refine zZ (fun _=>[(0,.own 0 0 l.length),(1,.int .i64 0),(2,nI l.length),(3,.fn (.func 73) [] [])]) (fun _=>[.arr 2 (l.map Sm.v) 0]) ?_ ?_;apply zW 3 (mU [(8,.int .i64 1)]) id;apply qB 0;refine aU (σ:=Nat) (fun i=>[(0,.own 0 0 l.length),(1,.int .i64 0),(2,.int .i64 ((l.length:Nat):Int)),(3,.fn (.func 73) [] []),(8,.int .i64 ((i:Nat):Int))]) (fun i=>[.arr 2 ((fP i l).map Sm.v) 0]) (fun i=>1<=i/\(i<=l.length\/i=1)) (fun i=>l.length - i) 1 kq oq (fg kq (Eq.trans (b:=[.arr 2 (l.map Sm.v) 0]) kq (by show _=_;kernel_rfl)) az gd) ?_;rintro i ⟨hi1,hi2⟩;have hil:=jx l i;apply ao;apply zW 3 (mU [(14,.bool (decide (((i:Nat):Int)<((l.length:Nat):Int))))]) id;by_cases hb1:((i:Nat):Int)<((l.length:Nat):Int);apply qt (decide_eq_true hb1);apply qK;apply zZ (mT [] [14]) id;apply ao;apply qB 1;apply zW 2 (mU [(9,nI i)]) id;apply qB 2;refine aU (σ:=(List Sm×Nat)) (fun ⟨a,j⟩=>[(0,.own 0 0 l.length),(1,.int .i64 0),(2,.int .i64 ((l.length:Nat):Int)),(3,.fn (.func 73) [] []),(8,.int .i64 ((i:Nat):Int)),(9,.int .i64 ((j:Nat):Int))]) (fun ⟨a,j⟩=>[.arr 2 (a.map Sm.v) 0]) (fun ⟨a,j⟩=>iB j a=iB i (fP i l)/\a.length=l.length/\j<=i) (fun ⟨a,j⟩=>j) (fP i l,i) kq (by exact ⟨rfl,hil,Nat.le_refl _⟩) (fg kq kq az gd) ?_;rintro ⟨a,j⟩ hJ;have hal:=hJ.2.1;have hji:=hJ.2.2;refine zZ (fun _=>[(0,.own 0 0 l.length),(1,.int .i64 0),(2,nI l.length),(3,.fn (.func 73) [] []),(8,nI i),(9,nI j)]) (fun _=>[.arr 2 (a.map Sm.v) 0]) ?_ ?_;apply ao;apply ao;refine zD cxM kq aj ?_;apply qu 4;by_cases hb2:((j:Nat):Int) > 0;refine bL 20 (wm j) (.bool true) (bN aj) kq (congrArg aa.bool (decide_eq_true hb2)) ?_;refine bL 21 (wm j) (.bool true) (bN aj) kq (congrArg aa.bool (decide_eq_true hb2)) ?_;apply qu 3;refine qd (b9 (k:=.i64) (i:=((j:Nat):Int)) (o:=0) (off:=0) (len:=l.length) (sz:=2) (fr:=0) (es:=(a.map Sm.v)) kq cK en kq rfl pF ar ar) ?_ ?_ ?_ ?_;refine qd (eI (t:=58) (o:=0) (idx:=(0+j)) (off:=0) (k:=((a.map Sm.v).length)) (sz:=2) (fr:=0) (es:=(a.map Sm.v)) (x:=Sm.v (yo a j)) (v:=.agg (Ie a j)) kq kq zq (eJ _ _ _ _ ar) HW) ?_ ?_ ?_ ?_;apply qu 2;refine qd (fd (a:=((j:Nat):Int)) (b:=1) kq ar ar) ?_ ?_ ?_ ?_;refine qd (b9 (k:=.i64) (i:=(((j:Nat):Int) - 1)) (o:=0) (off:=0) (len:=l.length) (sz:=2) (fr:=0) (es:=(a.map Sm.v)) kq cK en kq rfl pF ar ar) ?_ ?_ ?_ ?_;refine qd (eI (t:=58) (o:=0) (idx:=(0+((m5 j)).toNat)) (off:=0) (k:=((a.map Sm.v).length)) (sz:=2) (fr:=0) (es:=(a.map Sm.v)) (x:=Sm.v (pL a j)) (v:=.agg (Il a j)) kq kq zq (eJ _ _ _ _ ar) HW) ?_ ?_ ?_ ?_;refine qQ (H7 (yo a j) (pL a j)) aY aY aY kq ?_;apply qu 2;refine bh kq ⟨kq,?_⟩;apply zE (mU [(22,.fn (.func 73) [] []),(23,.own 0 0 l.length),(24,nI j),(25,.pown 0 (0+j) 0 (a.map Sm.v).length),(26,.agg (Ie a j)),(27,.own 0 0 l.length),(28,nI j),(29,.int .i64 (m5 j)),(30,.pown 0 (0+((m5 j)).toNat) 0 (a.map Sm.v).length),(31,.agg (Il a j)),(32,.int .i64 (gk (yo a j).name (pL a j).name)),(33,.bool (decide ((gk (yo a j).name (pL a j).name)<0))),(34,.bool (decide ((gk (yo a j).name (pL a j).name)<0)))]) id;by_cases hb3:(gk (a.getD (0+j) Sm.zero).name (a.getD (0+((((j:Nat):Int) - 1)).toNat) Sm.zero).name)<0;apply qt (decide_eq_true hb3);apply qK;apply zZ (mT [] [34]) id;apply ao;apply qB 3;refine zD cxM kq (dE aj) ?_;apply qu 4;refine qd (fd (a:=((j:Nat):Int)) (b:=1) kq ar ar) ?_ ?_ ?_ ?_;apply qu 2;refine qd (fd (a:=((j:Nat):Int)) (b:=1) kq ar ar) ?_ ?_ ?_ ?_;refine qd (b9 (k:=.i64) (i:=(((j:Nat):Int) - 1)) (o:=0) (off:=0) (len:=l.length) (sz:=2) (fr:=0) (es:=(a.map Sm.v)) kq cK en kq rfl pF ar ar) ?_ ?_ ?_ ?_;refine qd (eI (t:=58) (o:=0) (idx:=(0+((m5 j)).toNat)) (off:=0) (k:=((a.map Sm.v).length)) (sz:=2) (fr:=0) (es:=(a.map Sm.v)) (x:=Sm.v (pL a j)) (v:=.agg (Il a j)) kq kq zq (eJ _ _ _ _ ar) HW) ?_ ?_ ?_ ?_;apply qu 2;refine qd (b9 (k:=.i64) (i:=((j:Nat):Int)) (o:=0) (off:=0) (len:=l.length) (sz:=2) (fr:=0) (es:=(a.map Sm.v)) kq cK en kq rfl pF ar ar) ?_ ?_ ?_ ?_;refine qd (eI (t:=58) (o:=0) (idx:=(0+j)) (off:=0) (k:=((a.map Sm.v).length)) (sz:=2) (fr:=0) (es:=(a.map Sm.v)) (x:=Sm.v (yo a j)) (v:=.agg (Ie a j)) kq kq zq (eJ _ _ _ _ ar) HW) ?_ ?_ ?_ ?_;refine qd (b9 (k:=.i64) (i:=((j:Nat):Int)) (o:=0) (off:=0) (len:=l.length) (sz:=2) (fr:=0) (es:=(a.map Sm.v)) kq cK en kq rfl pF ar ar) ?_ ?_ ?_ ?_;refine qD (iV (o:=0) (k:=((a.map Sm.v).length)) (x:=.agg (Il a j)) (enc:=Sm.v) (l:=a) (X:=(pL a j)) (d:=Sm.zero) (idx:=(0+j)) (sz:=2) kq (Sm.v_v (pL a j)).symm kq zq ar en GA AK) ?_ ?_ ?_ ?_;refine qd (b9 (k:=.i64) (i:=(((j:Nat):Int) - 1)) (o:=0) (off:=0) (len:=l.length) (sz:=2) (fr:=0) (es:=((a.set (0+j) (a.getD (0+((((j:Nat):Int) - 1)).toNat) Sm.zero)).map Sm.v)) kq cK en kq rfl pF ar ar) ?_ ?_ ?_ ?_;refine qD (iV (o:=0) (k:=(((a.set (0+j) (pL a j)).map Sm.v).length)) (x:=.agg (Ie a j)) (enc:=Sm.v) (l:=(a.set (0+j) (pL a j))) (X:=(yo a j)) (d:=Sm.zero) (idx:=(0+((m5 j)).toNat)) (sz:=2) kq (Sm.v_v (yo a j)).symm kq zq ar en GA AK) ?_ ?_ ?_ ?_;refine bh kq ⟨kq,?_⟩;apply ag;apply ab;refine zZ (fun _=>[(0,.own 0 0 l.length),(1,.int .i64 0),(2,nI l.length),(3,.fn (.func 73) [] []),(8,nI i),(9,nI j),(22,.fn (.func 73) [] []),(23,.own 0 0 l.length),(24,nI j),(25,.pown 0 (0+j) 0 (a.map Sm.v).length),(26,.agg [.str (a.getD (0+j) Sm.zero).name,.imm ((a.getD (0+j) Sm.zero).ctors.map Ct.v)]),(27,.own 0 0 l.length),(28,nI j),(29,.int .i64 (((j:Nat):Int) - 1)),(30,.pown 0 (0+((((j:Nat):Int) - 1)).toNat) 0 (a.map Sm.v).length),(31,.agg [.str (a.getD (0+((((j:Nat):Int) - 1)).toNat) Sm.zero).name,.imm ((a.getD (0+((((j:Nat):Int) - 1)).toNat) Sm.zero).ctors.map Ct.v)]),(32,.int .i64 (gk (a.getD (0+j) Sm.zero).name (a.getD (0+((((j:Nat):Int) - 1)).toNat) Sm.zero).name)),(33,.bool (decide ((gk (a.getD (0+j) Sm.zero).name (a.getD (0+((((j:Nat):Int) - 1)).toNat) Sm.zero).name)<0)))]) (fun _=>[.arr 2 (((a.set (0+j) (a.getD (0+((((j:Nat):Int) - 1)).toNat) Sm.zero)).set (0+((((j:Nat):Int) - 1)).toNat) (a.getD (0+j) Sm.zero)).map Sm.v) 0]) ?_ ?_;apply qo;apply qr 1;refine qy (fd (a:=((j:Nat):Int)) (b:=1) kq ar ar) ?_ ?_ ?_;apply qr 1;apply qe;refine ab ⟨(sB a j,j - 1),?_,?_,⟨⟨kq,kq,kq,kq,kq,(Eq.trans (b:=.int .i64 (((j:Nat):Int) - 1)) kq (by exact congrArg (aa.int .i64) oq)),trivial⟩,az,by simp,(Eq.trans (b:=[.arr 2 (((a.set (0+j) (a.getD (0+((((j:Nat):Int) - 1)).toNat) Sm.zero)).set (0+((((j:Nat):Int) - 1)).toNat) (a.getD (0+j) Sm.zero)).map Sm.v) 0]) kq (by (try dsimp only);rw [IP])),gd⟩⟩
 . try dsimp only
   omega
 . try dsimp only
   exact ⟨HH hJ.1 aq aq,by rw [m0];omega,by omega⟩
 iterate 46 kernel_rfl
 apply qf (decide_eq_false hb3);refine aK 2 kq kq ?_;apply ac;apply ac;apply au;apply ag;apply ab;apply zZ (mT [] [9,34]) id;apply qo;apply qr 1;refine qy (aA (a:=((i:Nat):Int)) (b:=1) kq ar ar) ?_ ?_ ?_;apply qr 1;apply qe;refine ab ⟨i+1,?_,?_,(fg kq (Eq.trans (b:=[.arr 2 (a.map Sm.v) 0]) kq Pw) az gd)⟩
 . omega
 . omega
 iterate 27 kernel_rfl
 refine bL 20 (wm j) (.bool false) (bN aj) kq (congrArg aa.bool (decide_eq_false hb2)) ?_;refine bL 21 (wm j) (.bool false) (bN aj) kq (congrArg aa.bool (decide_eq_false hb2)) ?_;apply qu 13;refine bh kq ⟨kq,?_⟩;apply zE (mU [(22,.tup []),(23,.tup []),(24,.tup []),(25,.tup []),(26,.tup []),(27,.tup []),(28,.tup []),(29,.tup []),(30,.tup []),(31,.tup []),(32,.tup []),(33,.tup []),(34,.bool false)]) id;refine fM kq kq ?_;refine aK 2 kq kq ?_;apply ac;apply ac;apply au;apply ag;apply ab;apply zZ (mT [] [9,34]) id;apply qo;apply qr 1;refine qy (aA (a:=((i:Nat):Int)) (b:=1) kq ar ar) ?_ ?_ ?_;apply qr 1;apply qe;refine ab ⟨i+1,?_,?_,(fg kq (Eq.trans (b:=[.arr 2 (a.map Sm.v) 0]) kq Pw) az gd)⟩
 . omega
 . omega
 iterate 22 kernel_rfl
 apply qf (decide_eq_false hb1);refine aK 0 kq kq ?_;apply ac;apply ac;apply au;refine cy (l:=[]) (.inl rfl) kq (by rfl) c5 c5 ?_ ?_;refine Eq.trans (b:=[.arr 2 ((fP i l).map Sm.v) 0]) kq ?_
 . rw [Ev hi1 hi2 aq]
 . simp [ax.belO,aM,aa.bel,Ty.v,Ex.v,Ct.v,Co.v,Rf.v,Sm.v,Tb.v_cs,Sc.v,Md.v,Pb.v,Ls.v,-List.map_take,-List.map_drop,-List.map_append,-List.map_set]
 iterate 7 kernel_rfl
noncomputable def Q9:Code:=aF Tryz.f148
theorem E2 (l:List Sm) (lim:Int) (hl:l.length<=12):aE cx 148 [.own 0 0 l.length,.int .i64 0,.int .i64 ((l.length:Nat):Int),.int .i64 (lim),.fn (.func 73) [] []] [.arr 2 (l.map Sm.v) 0] (fun v h=>v=(.tup [])/\h=[.arr 2 ((fP l.length l).map Sm.v) 0]):=by
 refine am (cx:=cx) 148 1 [] Tryz.func148 rfl rfl rfl rfl rfl zq ?_;show wpA cx 148 1 (at_ Q9 []) _ _ _;refine zZ (fun _=>[(0,.own 0 0 l.length),(1,.int .i64 0),(2,nI l.length),(3,.int .i64 (lim)),(4,.fn (.func 73) [] [])]) (fun _=>[.arr 2 (l.map Sm.v) 0]) ?_ ?_;apply zW 1 (mU [(10,.bool true)]) id;apply zW 1 (mU [(11,.bool true)]) id;apply qB 0;refine Oe 1 kq ?_;refine Pa ?_;apply qB 1;apply zV 2;refine qy (fd (a:=((l.length:Nat):Int)) (b:=0) kq ar ar) ?_ ?_ ?_;refine zR 1 (fun _=>[(0,.own 0 0 l.length),(1,.int .i64 0),(2,nI l.length),(3,.int .i64 (lim)),(4,.fn (.func 73) [] []),(10,.bool true),(11,.bool true),(12,.int .i64 (((l.length:Nat):Int) - 0))]) (fun _=>[.arr 2 (l.map Sm.v) 0]) ?_ ?_;apply ao;apply zW 2 (mU [(25,.bool (decide ((((l.length:Nat):Int) - 0)<=12)))]) id;by_cases hb1:(((l.length:Nat):Int) - 0)<=12;apply qt (decide_eq_true hb1);apply zV 4;refine qA (ES l oq) gd gd rfl gd gd kq ?_;refine zN (fun _=>[]) (fun _=>[.arr 2 ((fP l.length l).map Sm.v) 0]) ?_ ?_;refine bq kq ?_;apply aR;apply iR;apply aR;apply iR;refine cy (l:=[]) (.inr rfl) kq (by rfl) c5 c5 ?_ ?_;refine Eq.trans (b:=[.arr 2 ((fP l.length l).map Sm.v) 0]) kq ?_
 . rfl
 . simp [ax.belO,aM,aa.bel,Ty.v,Ex.v,Ct.v,Co.v,Rf.v,Sm.v,Tb.v_cs,Sc.v,Md.v,Pb.v,Ls.v,-List.map_take,-List.map_drop,-List.map_append,-List.map_set]
 iterate 3 kernel_rfl
 . exfalso;omega
 iterate 13 kernel_rfl
noncomputable def c72:Code:=aF Tryz.f72
theorem Ft (l:List Sm) (hl:l.length<=12):aE cx 72 [.own 0 0 l.length,.fn (.func 73) [] []] [.arr 2 (l.map Sm.v) 0] (fun v h=>v=(.tup [])/\h=[.arr 2 ((fP l.length l).map Sm.v) 0]):=by
 refine am (cx:=cx) 14 1 [] Tryz.func72 rfl rfl rfl rfl rfl zq ?_;show wpA cx 14 1 (at_ c72 []) _ _ _;refine zZ (fun _=>[(0,.own 0 0 l.length),(1,.fn (.func 73) [] [])]) (fun _=>[.arr 2 (l.map Sm.v) 0]) ?_ ?_;apply zV 1;refine qy (cU (o:=0) (off:=0) (len:=l.length) (sz:=2) (es:=(l.map Sm.v)) (fr:=0) kq cK kq zq) ?_ ?_ ?_;refine zR 1 (fun _=>[(0,.own 0 0 l.length),(1,.fn (.func 73) [] []),(4,nI l.length)]) (fun _=>[.arr 2 (l.map Sm.v) 0]) ?_ ?_;apply qo;apply qr 3;refine qy (GK (k:=.i64) (n:=((l.length:Nat):Int)) kq ty3 JY (by simp [IntKind.wrap,IntKind.bits,IntKind.signed];omega)) ?_ ?_ ?_;apply qc [.int .u64 ((l.length:Nat):Int)] (tF l.length ar);apply qr 1;refine qA (E2 l (LS l.length) oq) gd gd rfl gd gd kq ?_;apply qe;refine cy (l:=[]) (.inl rfl) kq (by rfl) c5 c5 ?_ ?_;refine Eq.trans (b:=[.arr 2 ((fP l.length l).map Sm.v) 0]) kq ?_
 . rfl
 . simp [ax.belO,aM,aa.bel,Ty.v,Ex.v,Ct.v,Co.v,Rf.v,Sm.v,Tb.v_cs,Sc.v,Md.v,Pb.v,Ls.v,-List.map_take,-List.map_drop,-List.map_append,-List.map_set]
 iterate 12 kernel_rfl
end Go.Proofs.YtcpklndelobigaaGreatDoor
