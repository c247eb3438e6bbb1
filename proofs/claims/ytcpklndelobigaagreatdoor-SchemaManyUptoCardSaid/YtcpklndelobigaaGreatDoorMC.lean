/- What the reference finds wrong with a table. Conditions: sizes that can be had; what the leaves answer. -/
import Derived.Test.YtcpklndelobigaaGreatDoorMB
set_option linter.all false
namespace Go.Proofs.YtcpklndelobigaaGreatDoor
open Go.Proofs.YtcpklndelobigaaGreatDoor.Abs
set_option maxRecDepth 20000
set_option maxHeartbeats 4000000
structure sV (sums:List Sm) (low:List UInt8→Bool) (sto:Ty→Bool) (chk:Ex→Int) (d:Dc):Prop where
 ok:d.ok
 hlow:∀ i,i<d.tab.cols.length→ao cx 89 [.str (d.tab.cols.getD i Co.zero).name] (.bool (low (d.tab.cols.getD i Co.zero).name))
 hsto:∀ i,i<d.tab.cols.length→ao cx 92 [.imm (sums.map Sm.v),(d.tab.cols.getD i Co.zero).type.v] (.bool (sto (d.tab.cols.getD i Co.zero).type))
 hln:ao cx 89 [.str d.name] (.bool (low d.name))
 hchk:ao cx 90 [d.tab.chk.v] (.int .i64 (chk d.tab.chk))
section
variable {low:List UInt8→Bool} {sto:Ty→Bool} {chk:Ex→Int} {fst:List UInt8→Option Tb} {d:Dc} {t:Tb} {cols:List Co} {s:Wr} {i:Nat}
def wo (low:List UInt8→Bool) (chk:Ex→Int) (d:Dc):Bool:=!low d.name || !(chk d.tab.chk==0)
theorem CT (h:¬ low d.name=true):true=wo low chk d:=by unfold wo;rw [Bool.eq_false_iff.2 h];rfl
theorem CJ (h:¬ chk d.tab.chk=0):true=wo low chk d:=by unfold wo;rw [show (chk d.tab.chk==0)=false by simpa using h];simp
theorem C5 (h:low d.name=true) (h2:chk d.tab.chk=0):false=wo low chk d:=by unfold wo;rw [h,h2];rfl
theorem gi {b c:Bool} (hb:(!low (cols.getD i Co.zero).name || bc (cols.take i) (cols.getD i Co.zero).name)=b) (hc:sto (cols.getD i Co.zero).type=c):wrC low sto cols (i+1) s=(ar (!c) [(cols.getD i Co.zero).name] (wrC low sto cols i s).1,(wrC low sto cols i s).2 || b):=by
 rw [wrC,hb,hc]
theorem xi (h:¬ low (cols.getD i Co.zero).name=true):(!low (cols.getD i Co.zero).name || bc (cols.take i) (cols.getD i Co.zero).name)=true:=by rw [Bool.eq_false_iff.2 h];rfl
theorem yi (h:aD (cols.take i) (cols.getD i Co.zero).name ≥ 0):(!low (cols.getD i Co.zero).name || bc (cols.take i) (cols.getD i Co.zero).name)=true:=by rw [BX h];simp
theorem xl (h:low (cols.getD i Co.zero).name=true) (h2:¬ aD (cols.take i) (cols.getD i Co.zero).name ≥ 0):(!low (cols.getD i Co.zero).name || bc (cols.take i) (cols.getD i Co.zero).name)=false:=by rw [h,A9 h2];rfl
theorem kn {b c:Bool} (hb:bc t.cols (t.key.getD i [])=b) (hc:(t.key.take i).contains (t.key.getD i [])=c):wrK t (i+1) s=(ar c [t.key.getD i []] (wrK t i s).1,(wrK t i s).2 || !b):=by
 rw [wrK,hb,hc]
theorem fg {b c:Bool} (hb:dW fst t i=b) (hc:(!(fst (t.refs.getD i Rf.zero).tab).isSome || !bc t.cols (t.refs.getD i Rf.zero).col)=c):wrR fst t (i+1) s=(ar b [(t.refs.getD i Rf.zero).col,(t.refs.getD i Rf.zero).tab] (wrR fst t i s).1,(wrR fst t i s).2 || c):=by
 rw [wrR,hb,hc]
theorem tH (h:¬ (fst (t.refs.getD i Rf.zero).tab).isSome=true):(!(fst (t.refs.getD i Rf.zero).tab).isSome || !bc t.cols (t.refs.getD i Rf.zero).col)=true:=by rw [Bool.eq_false_iff.2 h];rfl
theorem uc (h:aD t.cols (t.refs.getD i Rf.zero).col<0):(!(fst (t.refs.getD i Rf.zero).tab).isSome || !bc t.cols (t.refs.getD i Rf.zero).col)=true:=by rw [iW h];simp
theorem uh (h:(fst (t.refs.getD i Rf.zero).tab).isSome=true) (h2:¬ aD t.cols (t.refs.getD i Rf.zero).col<0):(!(fst (t.refs.getD i Rf.zero).tab).isSome || !bc t.cols (t.refs.getD i Rf.zero).col)=false:=by rw [h,fm h2];rfl
theorem lk {b:Bool} (h:(t.refs.take i).any (fun x=>x.col==(t.refs.getD i Rf.zero).col)=b) (h2:(!(fst (t.refs.getD i Rf.zero).tab).isSome || !bc t.cols (t.refs.getD i Rf.zero).col)=true):dW fst t i=b:=by
 unfold dW;rw [h]
 cases q1:(fst (t.refs.getD i Rf.zero).tab).isSome <;> cases q2:bc t.cols (t.refs.getD i Rf.zero).col <;> rw [q1,q2] at h2 <;> simp at h2 ⊢
theorem z6 {l:List Rf} {p:Rf→Bool} {j:Nat} (h:j<l.length):(l.take (j+1)).any p=((l.take j).any p || p (l.getD j Rf.zero)):=by
 rw [bZ l Rf.zero j h];simp
theorem nY (s:Wr):∀ i,(wrC low sto cols i s).1.length≤s.1.length+i
 | 0=>Nat.le_refl _
 | i+1=>by
  have:=nY s i
  show (ar _ _ _).length≤_
  unfold ar
  cases !sto (cols.getD i Co.zero).type <;> simp <;> omega
theorem oC (s:Wr):∀ i,(wrK t i s).1.length≤s.1.length+i
 | 0=>Nat.le_refl _
 | i+1=>by
  have:=oC s i
  show (ar _ _ _).length≤_
  unfold ar
  cases (t.key.take i).contains (t.key.getD i []) <;> simp <;> omega
theorem oA (s:Wr):∀ i,(wrR fst t i s).1.length≤s.1.length+i
 | 0=>Nat.le_refl _
 | i+1=>by
  have:=oA s i
  show (ar _ _ _).length≤_
  unfold ar
  cases dW fst t i <;> simp <;> omega
theorem ji (b:Bool) (w o):(ar b w o).length≤o.length+1:=by cases b <;> simp [ar]
end
theorem j8 (h:ae):∀ (a b:List aa),aZ h (a++b)=aZ h a++aZ h b
 | [],b=>rfl
 | x::a,b=>by simp only [List.cons_append,aZ,j8 h a b]
theorem w5 {ds:List Dc} (h:∀ d∈ds,d.tab.ok) (n:List UInt8) (x:Tb) (hx:ej n ds=some x):x.ok:=by
 unfold ej at hx
 rw [Option.map_eq_some_iff] at hx
 obtain ⟨d,h1,rfl⟩:=hx
 exact h d (List.mem_of_find?_eq_some h1)
theorem mT:∀ {ms:List Md} (h:∀ m∈ms,∀ d∈m.decls,d.tab.ok) (n:List UInt8) (x:Tb),ay n ms=some x→x.ok
 | [],_,_,_,hx=>by cases hx
 | m::r,h,n,x,hx=>by
  rw [eG] at hx
  cases e:ej n m.decls with
  | some y =>
   rw [e] at hx
   have e2:some y=some x:=hx
   cases e2
   exact w5 (h m (List.mem_cons_self ..)) n _ e
  | none =>
   rw [e] at hx
   exact mT (fun m' hm'=>h m' (List.mem_cons_of_mem _ hm')) n x hx
theorem sC {ms:List Md} (h:∀ m∈ms,∀ d∈m.decls,d.tab.ok) (n:List UInt8):((ay n ms).getD Tb.zero).ok:=by
 cases e:ay n ms with
 | none=>exact ⟨by simp [Tb.zero],by simp [Tb.zero],by simp [Tb.zero],fun c hc=>by cases hc⟩
 | some x=>exact mT h n x e
theorem sO (low:List UInt8→Bool) (sto:Ty→Bool) (chk:Ex→Int) (d:Dc):(wr1 low sto (fun e=>chk e==0) d).1.length≤1+d.tab.cols.length:=by
 have h:=nY (low:=low) (sto:=sto) (cols:=d.tab.cols) ((ar (Nat.blt 8 d.tab.cols.length) [] []),!low d.name || !(chk d.tab.chk==0)) d.tab.cols.length
 have h0:=ji (Nat.blt 8 d.tab.cols.length) [] []
 simp only [List.length_nil] at h0
 show (wrC low sto d.tab.cols d.tab.cols.length ((ar (Nat.blt 8 d.tab.cols.length) [] []),!low d.name || !(chk d.tab.chk==0))).1.length≤_
 have h1:(((ar (Nat.blt 8 d.tab.cols.length) [] []),!low d.name || !(chk d.tab.chk==0)):Wr).1.length≤1:=h0
 omega
theorem sZ (low:List UInt8→Bool) (sto:Ty→Bool) (chk:Ex→Int) (d:Dc):(wr2 low sto (fun e=>chk e==0) d).1.length≤2+d.tab.cols.length+d.tab.key.length:=by
 have h:=oC (t:=d.tab) ((ar (aj d.tab) [] (wr1 low sto (fun e=>chk e==0) d).1),(wr1 low sto (fun e=>chk e==0) d).2) d.tab.key.length
 have h0:=ji (aj d.tab) [] (wr1 low sto (fun e=>chk e==0) d).1
 have h1:=sO low sto chk d
 show (wrK d.tab d.tab.key.length ((ar (aj d.tab) [] (wr1 low sto (fun e=>chk e==0) d).1),(wr1 low sto (fun e=>chk e==0) d).2)).1.length≤_
 have h2:(((ar (aj d.tab) [] (wr1 low sto (fun e=>chk e==0) d).1),(wr1 low sto (fun e=>chk e==0) d).2):Wr).1.length≤(wr1 low sto (fun e=>chk e==0) d).1.length+1:=h0
 omega
noncomputable def c38:Code:=aT Tryz.f38
theorem eY {p:Prop} (h:p:=by simp [fA,aO,aa.owns,Ty.v,Ex.v,Ct.v,Co.v,Rf.v,Sm.v,Tb.v_cs,Sc.v,Md.v,Pb.v,Ls.v,-List.map_take,-List.map_drop,-List.map_append]):p:=h
theorem gT {p:Prop} (h:p:=by simp [Ty.v,Ex.v,Ct.v,Co.v,Rf.v,Sm.v,Tb.v_cs,Sc.v,Md.v,Pb.v,Ls.v,-List.map_take,-List.map_drop,-List.map_append]):p:=h
theorem kV {p:Prop} (h:p:=by simp [j8,aZ,aa.frz,List.map_append,Ty.v,Ex.v,Ct.v,Co.v,Rf.v,Sm.v,Tb.v_cs,Sc.v,Md.v,Pb.v,Ls.v,-List.map_take,-List.map_drop]):p:=h
theorem ul {p:Prop} (h:p:=by (have e_:i=d.tab.cols.length:=by omega);subst e_;(first|rw [pX aq]|rw [p8 aq]|rw [qx aq aq]) <;> (show _=_;kernel_rfl)):p:=h
theorem v6 {p:Prop} (h:p:=by intro _;simp [Ty.v,Ex.v,Ct.v,Co.v,Rf.v,Sm.v,Tb.v_cs,Sc.v,Md.v,Pb.v,Ls.v,-List.map_take,-List.map_drop,-List.map_append]):p:=h
theorem BZ {p:Prop} (h:p:=by rw [z6 oq];first|(rw [(by assumption:((d.tab.refs.take j).any (fun x=>x.col==(d.tab.refs.getD r Rf.zero).col))=true)];rfl)|(rw [Bool.eq_false_iff.2 (by assumption:¬ ((d.tab.refs.take j).any (fun x=>x.col==(d.tab.refs.getD r Rf.zero).col))=true)];rfl)):p:=h
theorem ep {p:Prop} (h:p:=by simp;omega):p:=h
theorem w9 {p:Prop} (h:p:=by (first|rw [wH aq]|rw [vV aq]) <;> (show _=_;kernel_rfl)):p:=h
theorem B9 {p:Prop} (h:p:=by rw [fg (b:=true) (c:=false) (nR aq (fm aq) (by rw [← mq aq];assumption)) (uh aq aq)] <;> (show _=_;kernel_rfl)):p:=h
theorem BW {p:Prop} (h:p:=by rw [fg (b:=false) (c:=false) (oh aq (by rw [← mq aq];assumption)) (uh aq aq)] <;> (show _=_;kernel_rfl)):p:=h
theorem AO {p:Prop} (h:p:=by rw [fg (b:=false) (c:=true) (lk (Bool.eq_false_iff.2 aq) (uc aq)) (uc aq)] <;> (show _=_;kernel_rfl)):p:=h
theorem AV {p:Prop} (h:p:=by rw [fg (b:=false) (c:=true) (lk (Bool.eq_false_iff.2 aq) (tH aq)) (tH aq)] <;> (show _=_;kernel_rfl)):p:=h
theorem zG {p:Prop} (h:p:=by (have e_:i=d.tab.cols.length:=by omega);subst e_;show _=_;kernel_rfl):p:=h
theorem BA {p:Prop} (h:p:=by rw [gi (b:=false) (c:=false) (xl aq aq) (Bool.eq_false_iff.2 aq)] <;> (show _=_;kernel_rfl)):p:=h
theorem Bn {p:Prop} (h:p:=by rw [gi (b:=true) (c:=false) (yi aq) (Bool.eq_false_iff.2 aq)] <;> (show _=_;kernel_rfl)):p:=h
theorem Bp {p:Prop} (h:p:=by rw [gi (b:=true) (c:=false) (xi aq) (Bool.eq_false_iff.2 aq)] <;> (show _=_;kernel_rfl)):p:=h
theorem BS {p:Prop} (h:p:=by rw [fg (b:=true) (c:=false) (fX aq) (uh aq aq)] <;> (show _=_;kernel_rfl)):p:=h
theorem BT {p:Prop} (h:p:=by rw [kn (b:=false) (c:=false) (iW aq) (oR aq)] <;> (show _=_;kernel_rfl)):p:=h
theorem zH {p:Prop} (h:p:=by (obtain rfl:k=d.tab.key.length:=by omega);kernel_rfl):p:=h
theorem AP {p:Prop} (h:p:=by rw [kn (b:=false) (c:=true) (iW aq) (pt aq)] <;> (show _=_;kernel_rfl)):p:=h
theorem Cv {p:Prop} (h:p:=by rw [kn (b:=true) (c:=false) (fm aq) (oR aq)] <;> (show _=_;kernel_rfl)):p:=h
theorem B8 {p:Prop} (h:p:=by rw [kn (b:=true) (c:=true) (fm aq) (pt aq)] <;> (show _=_;kernel_rfl)):p:=h
theorem AQ {p:Prop} (h:p:=by rw [fg (b:=true) (c:=true) (fX aq) (uc aq)] <;> (show _=_;kernel_rfl)):p:=h
theorem Bi {p:Prop} (h:p:=by rw [fg (b:=true) (c:=true) (fX aq) (tH aq)] <;> (show _=_;kernel_rfl)):p:=h
theorem BB {p:Prop} (h:p:=by rw [gi (b:=false) (c:=true) (xl aq aq) aq] <;> (show _=_;kernel_rfl)):p:=h
theorem BO {p:Prop} (h:p:=by rw [gi (b:=true) (c:=true) (yi aq) aq] <;> (show _=_;kernel_rfl)):p:=h
theorem v7 {p:Prop} (h:p:=by rw [gi (b:=true) (c:=true) (xi aq) aq] <;> (show _=_;kernel_rfl)):p:=h
theorem ra (low:List UInt8→Bool) (sto:Ty→Bool) (chk:Ex→Int) (sums:List Sm) (ms:List Md) (d:Dc) (hL:sV sums low sto chk d) (hn:ms.length≤2) (hm:∀ i,(ms.getD i Md.zero).decls.length≤40) (hok:∀ m∈ms,∀ d∈m.decls,d.tab.ok):ao cx 38 [.imm (ms.map Md.v),.imm (sums.map Sm.v),Dc.v d] (.tup [.imm ((wr low sto (fun e=>chk e==0) (fun n=>ay n ms) d).1.map Ls.v),.bool ((wr low sto (fun e=>chk e==0) (fun n=>ay n ms) d).2)]):=by
 have hd1:=hL.ok.t.c
 have hd2:=hL.ok.t.k
 have hd3:=hL.ok.t.r
 have hW1:=sO low sto chk d
 have hW2:=sZ low sto chk d
 have hA1:=ji (aj d.tab) [] (wr1 low sto (fun e=>chk e==0) d).1
 refine aC (cx:=cx) 209 0 [(ResultVar.tmp 6),(ResultVar.tmp 7)] Tryz.func38 rfl rfl rfl rfl rfl zq ?_
 show wpA cx 209 0 (at_ c38 []) _ _ _
 apply qZ [(0,.imm (ms.map Md.v)),(1,.imm (sums.map Sm.v)),(2,Dc.v d)] []
 apply qW 3 [(0,.imm (ms.map Md.v)),(1,.imm (sums.map Sm.v)),(5,.ptr 0 0)] [.box (Dc.cs d)]
 apply qU 1 [(0,.imm (ms.map Md.v)),(1,.imm (sums.map Sm.v)),(5,.ptr 0 0),(8,.full [])]
 refine lU 8 1 dq kq ?_
 apply qZ [(0,.imm (ms.map Md.v)),(1,.imm (sums.map Sm.v)),(5,.ptr 0 0),(8,.own 1 0 0)] [.box (Dc.cs d),.arr 1 (([]:List (List (List UInt8))).map Ls.v) 0]
 apply qW 4 [(0,.imm (ms.map Md.v)),(1,.imm (sums.map Sm.v)),(5,.ptr 0 0),(8,.own 1 0 0),(9,.ptr 2 0)] [.box (Dc.cs d),.arr 1 (([]:List (List (List UInt8))).map Ls.v) 0,.box (Tb.cs d.tab)]
 apply qU 1 [(0,.imm (ms.map Md.v)),(1,.imm (sums.map Sm.v)),(5,.ptr 0 0),(8,.own 1 0 0),(9,.ptr 2 0),(10,.bool false)]
 apply qV 2
 apply qc [.str d.name] (hL.hln)
 apply qR 1 [(0,.imm (ms.map Md.v)),(1,.imm (sums.map Sm.v)),(8,.own 1 0 0),(9,.ptr 2 0),(10,.bool false),(11,.bool (low d.name))] [.box (Dc.cs d),.arr 1 (([]:List (List (List UInt8))).map Ls.v) 0,.box (Tb.cs d.tab)]
 refine sY (σ:=Unit) (fun _=>[(0,.imm (ms.map Md.v)),(1,.imm (sums.map Sm.v)),(8,.own 1 0 0),(9,.ptr 2 0),(10,.bool ((wo low chk d)))]) (fun _=>[.box (Dc.cs d),.arr 1 (([]:List (List (List UInt8))).map Ls.v) 0,.box (Tb.cs d.tab)]) (fun _=>True) kq ?_ ?_
 apply qV 3
 by_cases hb1:(low d.name)=true
 refine qm [31,32] (x:=(!(low d.name))) (congrArg not (hb1)) ?_ ?_
 apply qr 2
 refine bj (args:=[.agg [.int .i64 (d.tab.chk.kind),.str d.tab.chk.name,.int .i64 (d.tab.chk.n),.str d.tab.chk.s,.imm (d.tab.chk.names.map aa.str),.imm (d.tab.chk.binds.map aa.str),.imm (d.tab.chk.kids.map Ex.enc),.int .i64 (d.tab.chk.pos),.int .i64 (d.tab.chk.fin)]]) kq kq kq kq (hL.hchk) gT gT eY ?_
 apply qR 2 [(0,.imm (ms.map Md.v)),(1,.imm (sums.map Sm.v)),(8,.own 1 0 0),(9,.ptr 2 0),(10,.bool false),(37,.bool ((chk d.tab.chk) != 0))] [.box (Dc.cs d),.arr 1 (([]:List (List (List UInt8))).map Ls.v) 0,.box (Tb.cs d.tab)]
 by_cases hb2:(chk d.tab.chk)=0
 refine qf (x:=((chk d.tab.chk) != 0)) (bne_eq_false_iff_eq.2 hb2) ?_ ?_
 apply qk
 refine ab ⟨(),?_,⟨⟨kq,kq,kq,kq,(Eq.trans (b:=.bool false) kq (congrArg aa.bool (C5 aq aq))),trivial⟩,by simp [aG,aa.bel],by simp,kq,by simp [ai.belO,av,aa.bel,Ty.v,Ex.v,Ct.v,Co.v,Rf.v,Sm.v,Tb.v_cs,Sc.v,Md.v,Pb.v,Ls.v,-List.map_take,-List.map_drop,-List.map_append]⟩⟩
 · trivial
 iterate 2 kernel_rfl
 refine qt (x:=((chk d.tab.chk) != 0)) (bne_iff_ne.2 hb2) ?_ ?_
 apply qo
 apply qr 1
 apply qe
 refine ab ⟨(),?_,⟨⟨kq,kq,kq,kq,(Eq.trans (b:=.bool true) kq (congrArg aa.bool (CJ aq))),trivial⟩,by simp [aG,aa.bel],by simp,kq,by simp [ai.belO,av,aa.bel,Ty.v,Ex.v,Ct.v,Co.v,Rf.v,Sm.v,Tb.v_cs,Sc.v,Md.v,Pb.v,Ls.v,-List.map_take,-List.map_drop,-List.map_append]⟩⟩
 · trivial
 iterate 7 kernel_rfl
 refine qm [31,32] (x:=(!(low d.name))) (congrArg not (Bool.eq_false_iff.2 hb1)) ?_ ?_
 apply qR 5 [(0,.imm (ms.map Md.v)),(1,.imm (sums.map Sm.v)),(8,.own 1 0 0),(9,.ptr 2 0),(10,.bool false),(37,.bool true)] [.box (Dc.cs d),.arr 1 (([]:List (List (List UInt8))).map Ls.v) 0,.box (Tb.cs d.tab)]
 refine cU kq kq ?_
 apply qo
 apply qr 1
 apply qe
 refine ab ⟨(),?_,⟨⟨kq,kq,kq,kq,(Eq.trans (b:=.bool true) kq (congrArg aa.bool (CT aq))),trivial⟩,by simp [aG,aa.bel],by simp,kq,by simp [ai.belO,av,aa.bel,Ty.v,Ex.v,Ct.v,Co.v,Rf.v,Sm.v,Tb.v_cs,Sc.v,Md.v,Pb.v,Ls.v,-List.map_take,-List.map_drop,-List.map_append]⟩⟩
 · trivial
 iterate 6 kernel_rfl
 rintro _ _
 refine ov (σ:=Unit) (fun _=>[(0,.imm (ms.map Md.v)),(1,.imm (sums.map Sm.v)),(8,.own 1 0 (ar (Nat.blt 8 d.tab.cols.length) [] []).length),(9,.ptr 2 0),(10,.bool ((wo low chk d)))]) (fun _=>[.box (Dc.cs d),.arr 1 ((ar (Nat.blt 8 d.tab.cols.length) [] []).map Ls.v) 0,.box (Tb.cs d.tab)]) (fun _=>True) kq ?_ ?_
 apply qV 2
 refine qy (aw (l:=d.tab.cols) (enc:=Co.v) kq fv) ?_ ?_ ?_
 apply qR 1 [(0,.imm (ms.map Md.v)),(1,.imm (sums.map Sm.v)),(8,.own 1 0 0),(9,.ptr 2 0),(10,.bool ((wo low chk d))),(41,.bool (decide (((d.tab.cols.length:Nat):Int) > 8)))] [.box (Dc.cs d),.arr 1 (([]:List (List (List UInt8))).map Ls.v) 0,.box (Tb.cs d.tab)]
 by_cases hb3:((d.tab.cols.length:Nat):Int) > 8
 apply qt (decide_eq_true hb3)
 apply qo
 apply qr 2
 refine qY (bL (o:=1) (len:=0) (l:=([]:List (List (List UInt8)))) (xs:=[.full []]) (enc:=Ls.v) (sz:=1) (fr:=0) (x:=(.full [.full []])) kq eb b5 eb rfl kq rfl rfl kq ⟨by decide,by kernel_rfl⟩ kq (by simp) (by simp)) ?_ ?_ ?_
 apply qr 1
 apply qe
 refine ab (fun d_ Q_ hk_=>?_)
 apply qZ [(0,.imm (ms.map Md.v)),(1,.imm (sums.map Sm.v)),(8,.own 1 0 (([]:List (List (List UInt8))).length+1)),(9,.ptr 2 0),(10,.bool ((wo low chk d)))] [.box (Dc.cs d),.arr 1 (([]:List (List (List UInt8))).map Ls.v++[.full []]) 0,.box (Tb.cs d.tab)]
 refine ed 1 (sz:=1) (fr:=0) (es:=(([]:List (List (List UInt8))).map Ls.v++[.full []])) ((([]:List (List (List UInt8)))++[[]]).map Ls.v) kq eY kV ?_
 refine fY 8 (.own 1 0 (([]:List (List (List UInt8))).length+1)) (.own 1 0 (([]:List (List (List UInt8)))++[[]]).length) kq zq ?_
 refine hk_ _ _ ⟨(),?_,⟨⟨kq,kq,(Eq.trans (b:=.own 1 0 (([]:List (List (List UInt8)))++[[]]).length) kq w9),kq,kq,trivial⟩,by simp [aG,aa.bel],by simp,(Eq.trans (b:=[.box (Dc.cs d),.arr 1 ((([]:List (List (List UInt8)))++[[]]).map Ls.v) 0,.box (Tb.cs d.tab)]) kq w9),by simp [ai.belO,av,aa.bel,Ty.v,Ex.v,Ct.v,Co.v,Rf.v,Sm.v,Tb.v_cs,Sc.v,Md.v,Pb.v,Ls.v,-List.map_take,-List.map_drop,-List.map_append]⟩⟩
 · trivial
 iterate 8 kernel_rfl
 apply qf (decide_eq_false hb3)
 apply qk
 refine ab (fun d_ Q_ hk_=>?_)
 apply qz [(0,.imm (ms.map Md.v)),(1,.imm (sums.map Sm.v)),(8,.own 1 0 0),(9,.ptr 2 0),(10,.bool ((wo low chk d)))]
 refine hk_ _ _ ⟨(),?_,⟨⟨kq,kq,(Eq.trans (b:=.own 1 0 0) kq w9),kq,kq,trivial⟩,by simp [aG,aa.bel],by simp,(Eq.trans (b:=[.box (Dc.cs d),.arr 1 (([]:List (List (List UInt8))).map Ls.v) 0,.box (Tb.cs d.tab)]) kq w9),by simp [ai.belO,av,aa.bel,Ty.v,Ex.v,Ct.v,Co.v,Rf.v,Sm.v,Tb.v_cs,Sc.v,Md.v,Pb.v,Ls.v,-List.map_take,-List.map_drop,-List.map_append]⟩⟩
 · trivial
 iterate 7 kernel_rfl
 rintro _ _
 apply az
 apply qW 1 [(0,.imm (ms.map Md.v)),(1,.imm (sums.map Sm.v)),(8,.own 1 0 (ar (Nat.blt 8 d.tab.cols.length) [] []).length),(9,.ptr 2 0),(10,.bool ((wo low chk d))),(12,.int .i64 0)] [.box (Dc.cs d),.arr 1 ((ar (Nat.blt 8 d.tab.cols.length) [] []).map Ls.v) 0,.box (Tb.cs d.tab)]
 apply qB 0
 refine bn (σ:=Nat) (fun i=>[(0,.imm (ms.map Md.v)),(1,.imm (sums.map Sm.v)),(8,.own 1 0 (wrC low sto d.tab.cols i ((ar (Nat.blt 8 d.tab.cols.length) [] []),(wo low chk d))).1.length),(9,.ptr 2 0),(10,.bool ((wrC low sto d.tab.cols i ((ar (Nat.blt 8 d.tab.cols.length) [] []),(wo low chk d))).2)),(12,.int .i64 ((i:Nat):Int))]) (fun i=>[.box (Dc.cs d),.arr 1 ((wrC low sto d.tab.cols i ((ar (Nat.blt 8 d.tab.cols.length) [] []),(wo low chk d))).1.map Ls.v) 0,.box (Tb.cs d.tab)]) (fun i=>i≤d.tab.cols.length) (fun i=>d.tab.cols.length - i) 0 kq (by exact Nat.zero_le _) ⟨⟨kq,kq,(Eq.trans (b:=.own 1 0 (ar (Nat.blt 8 d.tab.cols.length) [] []).length) kq kq),kq,(Eq.trans (b:=.bool ((wo low chk d))) kq kq),kq,trivial⟩,by simp [aG,aa.bel],by simp,(Eq.trans (b:=[.box (Dc.cs d),.arr 1 ((ar (Nat.blt 8 d.tab.cols.length) [] []).map Ls.v) 0,.box (Tb.cs d.tab)]) kq kq),by simp [ai.belO,av,aa.bel,Ty.v,Ex.v,Ct.v,Co.v,Rf.v,Sm.v,Tb.v_cs,Sc.v,Md.v,Pb.v,Ls.v,-List.map_take,-List.map_drop,-List.map_append]⟩ ?_
 rintro i hi
 have hcl:(wrC low sto d.tab.cols i ((ar (Nat.blt 8 d.tab.cols.length) [] []),(wo low chk d))).1.length≤(ar (Nat.blt 8 d.tab.cols.length) [] []).length+i:=nY (low:=low) (sto:=sto) (cols:=d.tab.cols) ((ar (Nat.blt 8 d.tab.cols.length) [] []),(wo low chk d)) i
 have hcl0:=ji (Nat.blt 8 d.tab.cols.length) [] []
 simp only [List.length_nil] at hcl0
 apply az
 apply qV 3
 refine qy (aw (l:=d.tab.cols) (enc:=Co.v) kq fv) ?_ ?_ ?_
 apply qR 1 [(0,.imm (ms.map Md.v)),(1,.imm (sums.map Sm.v)),(8,.own 1 0 (wrC low sto d.tab.cols i ((ar (Nat.blt 8 d.tab.cols.length) [] []),(wo low chk d))).1.length),(9,.ptr 2 0),(10,.bool ((wrC low sto d.tab.cols i ((ar (Nat.blt 8 d.tab.cols.length) [] []),(wo low chk d))).2)),(12,nI i),(49,.bool (decide (((i:Nat):Int)<((d.tab.cols.length:Nat):Int))))] [.box (Dc.cs d),.arr 1 ((wrC low sto d.tab.cols i ((ar (Nat.blt 8 d.tab.cols.length) [] []),(wo low chk d))).1.map Ls.v) 0,.box (Tb.cs d.tab)]
 by_cases hb4:((i:Nat):Int)<((d.tab.cols.length:Nat):Int)
 apply qt (decide_eq_true hb4)
 apply qK
 apply qz [(0,.imm (ms.map Md.v)),(1,.imm (sums.map Sm.v)),(8,.own 1 0 (wrC low sto d.tab.cols i ((ar (Nat.blt 8 d.tab.cols.length) [] []),(wo low chk d))).1.length),(9,.ptr 2 0),(10,.bool ((wrC low sto d.tab.cols i ((ar (Nat.blt 8 d.tab.cols.length) [] []),(wo low chk d))).2)),(12,nI i)]
 apply az
 apply qB 1
 apply qV 3
 refine qy ((aA (k:=.i64) (l:=d.tab.cols) (enc:=Co.v) (i:=((i:Nat):Int)) Co.zero kq fv kQ (fun _=>rfl) oq oq).trans (congrArg (fun cs=>some (aa.pimm cs 0,_)) (dm (d.tab.cols.getD i Co.zero)))) ?_ ?_ ?_
 apply qR 3 [(0,.imm (ms.map Md.v)),(1,.imm (sums.map Sm.v)),(8,.own 1 0 (wrC low sto d.tab.cols i ((ar (Nat.blt 8 d.tab.cols.length) [] []),(wo low chk d))).1.length),(9,.ptr 2 0),(10,.bool ((wrC low sto d.tab.cols i ((ar (Nat.blt 8 d.tab.cols.length) [] []),(wo low chk d))).2)),(12,nI i),(13,.ptr 3 0)] [.box (Dc.cs d),.arr 1 ((wrC low sto d.tab.cols i ((ar (Nat.blt 8 d.tab.cols.length) [] []),(wo low chk d))).1.map Ls.v) 0,.box (Tb.cs d.tab),.box [.str (d.tab.cols.getD i Co.zero).name,.int .i64 ((d.tab.cols.getD i Co.zero).type.kind),.str (d.tab.cols.getD i Co.zero).type.name,.int .i64 ((d.tab.cols.getD i Co.zero).type.n),.imm ((d.tab.cols.getD i Co.zero).type.names.map aa.str),.imm ((d.tab.cols.getD i Co.zero).type.kids.map Ty.enc)]]
 apply qV 2
 refine qc [.str (d.tab.cols.getD i Co.zero).name] (hL.hlow i oq) ?_ ?_
 apply qR 1 [(0,.imm (ms.map Md.v)),(1,.imm (sums.map Sm.v)),(8,.own 1 0 (wrC low sto d.tab.cols i ((ar (Nat.blt 8 d.tab.cols.length) [] []),(wo low chk d))).1.length),(9,.ptr 2 0),(10,.bool ((wrC low sto d.tab.cols i ((ar (Nat.blt 8 d.tab.cols.length) [] []),(wo low chk d))).2)),(12,nI i),(13,.ptr 3 0),(14,.bool (low ((d.tab.cols.getD i Co.zero).name)))] [.box (Dc.cs d),.arr 1 ((wrC low sto d.tab.cols i ((ar (Nat.blt 8 d.tab.cols.length) [] []),(wo low chk d))).1.map Ls.v) 0,.box (Tb.cs d.tab),.box [.str (d.tab.cols.getD i Co.zero).name,.int .i64 ((d.tab.cols.getD i Co.zero).type.kind),.str (d.tab.cols.getD i Co.zero).type.name,.int .i64 ((d.tab.cols.getD i Co.zero).type.n),.imm ((d.tab.cols.getD i Co.zero).type.names.map aa.str),.imm ((d.tab.cols.getD i Co.zero).type.kids.map Ty.enc)]]
 apply az
 apply az
 refine b6 cxM kq ap (aU ?_)
 apply qu 3
 by_cases hb5:(low ((d.tab.cols.getD i Co.zero).name))=true
 refine bQ 61 (.bool (!(low ((d.tab.cols.getD i Co.zero).name)))) (.bool false) (bO ap) kq (congrArg aa.bool (congrArg not (hb5))) ?_
 refine bQ 62 (.bool (!(low ((d.tab.cols.getD i Co.zero).name)))) (.bool false) (bO ap) kq (congrArg aa.bool (congrArg not (hb5))) ?_
 apply qu 3
 refine qd (dj (lo:=none) (hi:=(some (.int .i64 ((i:Nat):Int)))) (l:=d.tab.cols) (enc:=Co.v) (x:=0) (y:=((i:Nat):Int)) kq fv kQ (fun _=>rfl) kq kq oq oq oq) ?_ ?_ ?_ ?_
 apply qu 2
 refine cc (args:=[.imm ((d.tab.cols.take i).map Co.v),.str (d.tab.cols.getD i Co.zero).name]) kq kq kq kq kq (fe (d.tab.cols.take i) ((d.tab.cols.getD i Co.zero).name) ep) v6 gT eY ?_
 apply qu 2
 refine bG kq ⟨kq,?_⟩
 apply ab
 apply qZ [(0,.imm (ms.map Md.v)),(1,.imm (sums.map Sm.v)),(8,.own 1 0 (wrC low sto d.tab.cols i ((ar (Nat.blt 8 d.tab.cols.length) [] []),(wo low chk d))).1.length),(9,.ptr 2 0),(10,.bool ((wrC low sto d.tab.cols i ((ar (Nat.blt 8 d.tab.cols.length) [] []),(wo low chk d))).2)),(12,nI i),(13,.ptr 3 0),(63,.ptr 2 1),(64,.imm (d.tab.cols.map Co.v)),(65,nI i),(66,.imm ((d.tab.cols.take i).map Co.v)),(67,.ptr 3 0),(68,.str (d.tab.cols.getD i Co.zero).name),(69,.int .i64 (aD (d.tab.cols.take i) ((d.tab.cols.getD i Co.zero).name))),(70,.bool (decide ((aD (d.tab.cols.take i) ((d.tab.cols.getD i Co.zero).name)) ≥ 0))),(71,.bool (decide ((aD (d.tab.cols.take i) ((d.tab.cols.getD i Co.zero).name)) ≥ 0)))] [.box (Dc.cs d),.arr 1 ((wrC low sto d.tab.cols i ((ar (Nat.blt 8 d.tab.cols.length) [] []),(wo low chk d))).1.map Ls.v) 0,.box (Tb.cs d.tab),.box [.str (d.tab.cols.getD i Co.zero).name,.int .i64 ((d.tab.cols.getD i Co.zero).type.kind),.str (d.tab.cols.getD i Co.zero).type.name,.int .i64 ((d.tab.cols.getD i Co.zero).type.n),.imm ((d.tab.cols.getD i Co.zero).type.names.map aa.str),.imm ((d.tab.cols.getD i Co.zero).type.kids.map Ty.enc)]]
 by_cases hb6:(aD (d.tab.cols.take i) ((d.tab.cols.getD i Co.zero).name)) ≥ 0
 apply qt (decide_eq_true hb6)
 apply qo
 apply qR 1 [(0,.imm (ms.map Md.v)),(1,.imm (sums.map Sm.v)),(8,.own 1 0 (wrC low sto d.tab.cols i ((ar (Nat.blt 8 d.tab.cols.length) [] []),(wo low chk d))).1.length),(9,.ptr 2 0),(10,.bool true),(12,nI i),(13,.ptr 3 0),(63,.ptr 2 1),(64,.imm (d.tab.cols.map Co.v)),(65,nI i),(66,.imm ((d.tab.cols.take i).map Co.v)),(67,.ptr 3 0),(68,.str (d.tab.cols.getD i Co.zero).name),(69,.int .i64 (aD (d.tab.cols.take i) ((d.tab.cols.getD i Co.zero).name))),(70,.bool (decide ((aD (d.tab.cols.take i) ((d.tab.cols.getD i Co.zero).name)) ≥ 0)))] [.box (Dc.cs d),.arr 1 ((wrC low sto d.tab.cols i ((ar (Nat.blt 8 d.tab.cols.length) [] []),(wo low chk d))).1.map Ls.v) 0,.box (Tb.cs d.tab),.box [.str (d.tab.cols.getD i Co.zero).name,.int .i64 ((d.tab.cols.getD i Co.zero).type.kind),.str (d.tab.cols.getD i Co.zero).type.name,.int .i64 ((d.tab.cols.getD i Co.zero).type.n),.imm ((d.tab.cols.getD i Co.zero).type.names.map aa.str),.imm ((d.tab.cols.getD i Co.zero).type.kids.map Ty.enc)]]
 apply qV 3
 refine bj (args:=[.imm (sums.map Sm.v),.agg [.int .i64 ((d.tab.cols.getD i Co.zero).type.kind),.str (d.tab.cols.getD i Co.zero).type.name,.int .i64 ((d.tab.cols.getD i Co.zero).type.n),.imm ((d.tab.cols.getD i Co.zero).type.names.map aa.str),.imm ((d.tab.cols.getD i Co.zero).type.kids.map Ty.enc)]]) kq kq kq kq (hL.hsto i oq) gT gT eY ?_
 apply qR 1 [(0,.imm (ms.map Md.v)),(1,.imm (sums.map Sm.v)),(8,.own 1 0 (wrC low sto d.tab.cols i ((ar (Nat.blt 8 d.tab.cols.length) [] []),(wo low chk d))).1.length),(9,.ptr 2 0),(10,.bool true),(12,nI i),(13,.ptr 3 0),(15,.bool (sto ((d.tab.cols.getD i Co.zero).type))),(63,.ptr 2 1),(64,.imm (d.tab.cols.map Co.v)),(65,nI i),(66,.imm ((d.tab.cols.take i).map Co.v)),(67,.ptr 3 0),(68,.str (d.tab.cols.getD i Co.zero).name),(69,.int .i64 (aD (d.tab.cols.take i) ((d.tab.cols.getD i Co.zero).name))),(70,.bool (decide ((aD (d.tab.cols.take i) ((d.tab.cols.getD i Co.zero).name)) ≥ 0)))] [.box (Dc.cs d),.arr 1 ((wrC low sto d.tab.cols i ((ar (Nat.blt 8 d.tab.cols.length) [] []),(wo low chk d))).1.map Ls.v) 0,.box (Tb.cs d.tab),.box [.str (d.tab.cols.getD i Co.zero).name,.int .i64 ((d.tab.cols.getD i Co.zero).type.kind),.str (d.tab.cols.getD i Co.zero).type.name,.int .i64 ((d.tab.cols.getD i Co.zero).type.n),.imm ((d.tab.cols.getD i Co.zero).type.names.map aa.str),.imm ((d.tab.cols.getD i Co.zero).type.kids.map Ty.enc)]]
 apply qU 2 [(0,.imm (ms.map Md.v)),(1,.imm (sums.map Sm.v)),(8,.own 1 0 (wrC low sto d.tab.cols i ((ar (Nat.blt 8 d.tab.cols.length) [] []),(wo low chk d))).1.length),(9,.ptr 2 0),(10,.bool true),(12,nI i),(13,.ptr 3 0),(63,.ptr 2 1),(64,.imm (d.tab.cols.map Co.v)),(65,nI i),(66,.imm ((d.tab.cols.take i).map Co.v)),(67,.ptr 3 0),(68,.str (d.tab.cols.getD i Co.zero).name),(69,.int .i64 (aD (d.tab.cols.take i) ((d.tab.cols.getD i Co.zero).name))),(70,.bool (decide ((aD (d.tab.cols.take i) ((d.tab.cols.getD i Co.zero).name)) ≥ 0))),(77,.bool (!(sto ((d.tab.cols.getD i Co.zero).type))))]
 by_cases hb7:(sto ((d.tab.cols.getD i Co.zero).type))=true
 refine qf (x:=(!(sto ((d.tab.cols.getD i Co.zero).type)))) (congrArg not (hb7)) ?_ ?_
 apply qk
 apply ah
 apply ab
 apply qz [(0,.imm (ms.map Md.v)),(1,.imm (sums.map Sm.v)),(8,.own 1 0 (wrC low sto d.tab.cols i ((ar (Nat.blt 8 d.tab.cols.length) [] []),(wo low chk d))).1.length),(9,.ptr 2 0),(10,.bool true),(12,nI i),(63,.ptr 2 1),(64,.imm (d.tab.cols.map Co.v)),(65,nI i),(66,.imm ((d.tab.cols.take i).map Co.v)),(67,.ptr 3 0),(68,.str (d.tab.cols.getD i Co.zero).name),(69,.int .i64 (aD (d.tab.cols.take i) ((d.tab.cols.getD i Co.zero).name))),(70,.bool (decide ((aD (d.tab.cols.take i) ((d.tab.cols.getD i Co.zero).name)) ≥ 0)))]
 apply qo
 apply qr 1
 refine qy (aI (a:=((i:Nat):Int)) (b:=1) kq oq oq) ?_ ?_ ?_
 apply qr 1
 apply qe
 refine ab ⟨i+1,?_,?_,⟨⟨kq,kq,(Eq.trans (b:=.own 1 0 (wrC low sto d.tab.cols i ((ar (Nat.blt 8 d.tab.cols.length) [] []),(wo low chk d))).1.length) kq BO),kq,(Eq.trans (b:=.bool true) kq (by rw [gi (b:=true) (c:=true) (yi aq) aq] <;> simp)),kq,trivial⟩,by simp [aG,aa.bel],by simp,(Eq.trans (b:=[.box (Dc.cs d),.arr 1 ((wrC low sto d.tab.cols i ((ar (Nat.blt 8 d.tab.cols.length) [] []),(wo low chk d))).1.map Ls.v) 0,.box (Tb.cs d.tab)]) kq BO),by simp [ai.belO,av,aa.bel,Ty.v,Ex.v,Ct.v,Co.v,Rf.v,Sm.v,Tb.v_cs,Sc.v,Md.v,Pb.v,Ls.v,-List.map_take,-List.map_drop,-List.map_append]⟩⟩
 · omega
 · omega
 iterate 9 kernel_rfl
 refine qt (x:=(!(sto ((d.tab.cols.getD i Co.zero).type)))) (congrArg not (Bool.eq_false_iff.2 hb7)) ?_ ?_
 apply qo
 apply qr 5
 refine qY (bL (o:=1) (len:=((wrC low sto d.tab.cols i ((ar (Nat.blt 8 d.tab.cols.length) [] []),(wo low chk d))).1.length)) (l:=(wrC low sto d.tab.cols i ((ar (Nat.blt 8 d.tab.cols.length) [] []),(wo low chk d))).1) (xs:=[.full [.str (d.tab.cols.getD i Co.zero).name]]) (enc:=Ls.v) (sz:=1) (fr:=0) (x:=(.full [.full [.str (d.tab.cols.getD i Co.zero).name]])) kq eb b5 eb rfl kq rfl rfl kq ⟨by decide,by kernel_rfl⟩ kq ep ep) ?_ ?_ ?_
 apply qr 1
 apply qe
 apply ah
 apply ab
 apply qZ [(0,.imm (ms.map Md.v)),(1,.imm (sums.map Sm.v)),(8,.own 1 0 ((wrC low sto d.tab.cols i ((ar (Nat.blt 8 d.tab.cols.length) [] []),(wo low chk d))).1.length+1)),(9,.ptr 2 0),(10,.bool true),(12,nI i),(63,.ptr 2 1),(64,.imm (d.tab.cols.map Co.v)),(65,nI i),(66,.imm ((d.tab.cols.take i).map Co.v)),(67,.ptr 3 0),(68,.str (d.tab.cols.getD i Co.zero).name),(69,.int .i64 (aD (d.tab.cols.take i) ((d.tab.cols.getD i Co.zero).name))),(70,.bool (decide ((aD (d.tab.cols.take i) ((d.tab.cols.getD i Co.zero).name)) ≥ 0)))] [.box (Dc.cs d),.arr 1 ((wrC low sto d.tab.cols i ((ar (Nat.blt 8 d.tab.cols.length) [] []),(wo low chk d))).1.map Ls.v++[.full [.str (d.tab.cols.getD i Co.zero).name]]) 0,.box (Tb.cs d.tab),.box [.str (d.tab.cols.getD i Co.zero).name,.int .i64 ((d.tab.cols.getD i Co.zero).type.kind),.str (d.tab.cols.getD i Co.zero).type.name,.int .i64 ((d.tab.cols.getD i Co.zero).type.n),.imm ((d.tab.cols.getD i Co.zero).type.names.map aa.str),.imm ((d.tab.cols.getD i Co.zero).type.kids.map Ty.enc)]]
 refine ed 1 (sz:=1) (fr:=0) (es:=((wrC low sto d.tab.cols i ((ar (Nat.blt 8 d.tab.cols.length) [] []),(wo low chk d))).1.map Ls.v++[.full [.str (d.tab.cols.getD i Co.zero).name]])) (((wrC low sto d.tab.cols i ((ar (Nat.blt 8 d.tab.cols.length) [] []),(wo low chk d))).1++[[(d.tab.cols.getD i Co.zero).name]]).map Ls.v) kq eY kV ?_
 refine fY 8 (.own 1 0 ((wrC low sto d.tab.cols i ((ar (Nat.blt 8 d.tab.cols.length) [] []),(wo low chk d))).1.length+1)) (.own 1 0 ((wrC low sto d.tab.cols i ((ar (Nat.blt 8 d.tab.cols.length) [] []),(wo low chk d))).1++[[(d.tab.cols.getD i Co.zero).name]]).length) kq zq ?_
 apply qZ [(0,.imm (ms.map Md.v)),(1,.imm (sums.map Sm.v)),(8,.own 1 0 ((wrC low sto d.tab.cols i ((ar (Nat.blt 8 d.tab.cols.length) [] []),(wo low chk d))).1++[[(d.tab.cols.getD i Co.zero).name]]).length),(9,.ptr 2 0),(10,.bool true),(12,nI i),(63,.ptr 2 1),(64,.imm (d.tab.cols.map Co.v)),(65,nI i),(66,.imm ((d.tab.cols.take i).map Co.v)),(67,.ptr 3 0),(68,.str (d.tab.cols.getD i Co.zero).name),(69,.int .i64 (aD (d.tab.cols.take i) ((d.tab.cols.getD i Co.zero).name))),(70,.bool (decide ((aD (d.tab.cols.take i) ((d.tab.cols.getD i Co.zero).name)) ≥ 0)))] [.box (Dc.cs d),.arr 1 (((wrC low sto d.tab.cols i ((ar (Nat.blt 8 d.tab.cols.length) [] []),(wo low chk d))).1++[[(d.tab.cols.getD i Co.zero).name]]).map Ls.v) 0,.box (Tb.cs d.tab),.box [.str (d.tab.cols.getD i Co.zero).name,.int .i64 ((d.tab.cols.getD i Co.zero).type.kind),.str (d.tab.cols.getD i Co.zero).type.name,.int .i64 ((d.tab.cols.getD i Co.zero).type.n),.imm ((d.tab.cols.getD i Co.zero).type.names.map aa.str),.imm ((d.tab.cols.getD i Co.zero).type.kids.map Ty.enc)]]
 apply qo
 apply qr 1
 refine qy (aI (a:=((i:Nat):Int)) (b:=1) kq oq oq) ?_ ?_ ?_
 apply qr 1
 apply qe
 refine ab ⟨i+1,?_,?_,⟨⟨kq,kq,(Eq.trans (b:=.own 1 0 ((wrC low sto d.tab.cols i ((ar (Nat.blt 8 d.tab.cols.length) [] []),(wo low chk d))).1++[[(d.tab.cols.getD i Co.zero).name]]).length) kq Bn),kq,(Eq.trans (b:=.bool true) kq (by rw [gi (b:=true) (c:=false) (yi aq) (Bool.eq_false_iff.2 aq)] <;> simp)),kq,trivial⟩,by simp [aG,aa.bel],by simp,(Eq.trans (b:=[.box (Dc.cs d),.arr 1 (((wrC low sto d.tab.cols i ((ar (Nat.blt 8 d.tab.cols.length) [] []),(wo low chk d))).1++[[(d.tab.cols.getD i Co.zero).name]]).map Ls.v) 0,.box (Tb.cs d.tab)]) kq Bn),by simp [ai.belO,av,aa.bel,Ty.v,Ex.v,Ct.v,Co.v,Rf.v,Sm.v,Tb.v_cs,Sc.v,Md.v,Pb.v,Ls.v,-List.map_take,-List.map_drop,-List.map_append]⟩⟩
 · omega
 · omega
 iterate 21 kernel_rfl
 apply qf (decide_eq_false hb6)
 apply qK
 apply qz [(0,.imm (ms.map Md.v)),(1,.imm (sums.map Sm.v)),(8,.own 1 0 (wrC low sto d.tab.cols i ((ar (Nat.blt 8 d.tab.cols.length) [] []),(wo low chk d))).1.length),(9,.ptr 2 0),(10,.bool ((wrC low sto d.tab.cols i ((ar (Nat.blt 8 d.tab.cols.length) [] []),(wo low chk d))).2)),(12,nI i),(13,.ptr 3 0),(63,.ptr 2 1),(64,.imm (d.tab.cols.map Co.v)),(65,nI i),(66,.imm ((d.tab.cols.take i).map Co.v)),(67,.ptr 3 0),(68,.str (d.tab.cols.getD i Co.zero).name),(69,.int .i64 (aD (d.tab.cols.take i) ((d.tab.cols.getD i Co.zero).name))),(70,.bool (decide ((aD (d.tab.cols.take i) ((d.tab.cols.getD i Co.zero).name)) ≥ 0)))]
 apply qV 3
 refine bj (args:=[.imm (sums.map Sm.v),.agg [.int .i64 ((d.tab.cols.getD i Co.zero).type.kind),.str (d.tab.cols.getD i Co.zero).type.name,.int .i64 ((d.tab.cols.getD i Co.zero).type.n),.imm ((d.tab.cols.getD i Co.zero).type.names.map aa.str),.imm ((d.tab.cols.getD i Co.zero).type.kids.map Ty.enc)]]) kq kq kq kq (hL.hsto i oq) gT gT eY ?_
 apply qR 1 [(0,.imm (ms.map Md.v)),(1,.imm (sums.map Sm.v)),(8,.own 1 0 (wrC low sto d.tab.cols i ((ar (Nat.blt 8 d.tab.cols.length) [] []),(wo low chk d))).1.length),(9,.ptr 2 0),(10,.bool ((wrC low sto d.tab.cols i ((ar (Nat.blt 8 d.tab.cols.length) [] []),(wo low chk d))).2)),(12,nI i),(13,.ptr 3 0),(15,.bool (sto ((d.tab.cols.getD i Co.zero).type))),(63,.ptr 2 1),(64,.imm (d.tab.cols.map Co.v)),(65,nI i),(66,.imm ((d.tab.cols.take i).map Co.v)),(67,.ptr 3 0),(68,.str (d.tab.cols.getD i Co.zero).name),(69,.int .i64 (aD (d.tab.cols.take i) ((d.tab.cols.getD i Co.zero).name))),(70,.bool (decide ((aD (d.tab.cols.take i) ((d.tab.cols.getD i Co.zero).name)) ≥ 0)))] [.box (Dc.cs d),.arr 1 ((wrC low sto d.tab.cols i ((ar (Nat.blt 8 d.tab.cols.length) [] []),(wo low chk d))).1.map Ls.v) 0,.box (Tb.cs d.tab),.box [.str (d.tab.cols.getD i Co.zero).name,.int .i64 ((d.tab.cols.getD i Co.zero).type.kind),.str (d.tab.cols.getD i Co.zero).type.name,.int .i64 ((d.tab.cols.getD i Co.zero).type.n),.imm ((d.tab.cols.getD i Co.zero).type.names.map aa.str),.imm ((d.tab.cols.getD i Co.zero).type.kids.map Ty.enc)]]
 apply qU 2 [(0,.imm (ms.map Md.v)),(1,.imm (sums.map Sm.v)),(8,.own 1 0 (wrC low sto d.tab.cols i ((ar (Nat.blt 8 d.tab.cols.length) [] []),(wo low chk d))).1.length),(9,.ptr 2 0),(10,.bool ((wrC low sto d.tab.cols i ((ar (Nat.blt 8 d.tab.cols.length) [] []),(wo low chk d))).2)),(12,nI i),(13,.ptr 3 0),(63,.ptr 2 1),(64,.imm (d.tab.cols.map Co.v)),(65,nI i),(66,.imm ((d.tab.cols.take i).map Co.v)),(67,.ptr 3 0),(68,.str (d.tab.cols.getD i Co.zero).name),(69,.int .i64 (aD (d.tab.cols.take i) ((d.tab.cols.getD i Co.zero).name))),(70,.bool (decide ((aD (d.tab.cols.take i) ((d.tab.cols.getD i Co.zero).name)) ≥ 0))),(77,.bool (!(sto ((d.tab.cols.getD i Co.zero).type))))]
 by_cases hb8:(sto ((d.tab.cols.getD i Co.zero).type))=true
 refine qf (x:=(!(sto ((d.tab.cols.getD i Co.zero).type)))) (congrArg not (hb8)) ?_ ?_
 apply qk
 apply ah
 apply ab
 apply qz [(0,.imm (ms.map Md.v)),(1,.imm (sums.map Sm.v)),(8,.own 1 0 (wrC low sto d.tab.cols i ((ar (Nat.blt 8 d.tab.cols.length) [] []),(wo low chk d))).1.length),(9,.ptr 2 0),(10,.bool ((wrC low sto d.tab.cols i ((ar (Nat.blt 8 d.tab.cols.length) [] []),(wo low chk d))).2)),(12,nI i),(63,.ptr 2 1),(64,.imm (d.tab.cols.map Co.v)),(65,nI i),(66,.imm ((d.tab.cols.take i).map Co.v)),(67,.ptr 3 0),(68,.str (d.tab.cols.getD i Co.zero).name),(69,.int .i64 (aD (d.tab.cols.take i) ((d.tab.cols.getD i Co.zero).name))),(70,.bool (decide ((aD (d.tab.cols.take i) ((d.tab.cols.getD i Co.zero).name)) ≥ 0)))]
 apply qo
 apply qr 1
 refine qy (aI (a:=((i:Nat):Int)) (b:=1) kq oq oq) ?_ ?_ ?_
 apply qr 1
 apply qe
 refine ab ⟨i+1,?_,?_,⟨⟨kq,kq,(Eq.trans (b:=.own 1 0 (wrC low sto d.tab.cols i ((ar (Nat.blt 8 d.tab.cols.length) [] []),(wo low chk d))).1.length) kq BB),kq,(Eq.trans (b:=.bool ((wrC low sto d.tab.cols i ((ar (Nat.blt 8 d.tab.cols.length) [] []),(wo low chk d))).2)) kq (by rw [gi (b:=false) (c:=true) (xl aq aq) aq] <;> simp)),kq,trivial⟩,by simp [aG,aa.bel],by simp,(Eq.trans (b:=[.box (Dc.cs d),.arr 1 ((wrC low sto d.tab.cols i ((ar (Nat.blt 8 d.tab.cols.length) [] []),(wo low chk d))).1.map Ls.v) 0,.box (Tb.cs d.tab)]) kq BB),by simp [ai.belO,av,aa.bel,Ty.v,Ex.v,Ct.v,Co.v,Rf.v,Sm.v,Tb.v_cs,Sc.v,Md.v,Pb.v,Ls.v,-List.map_take,-List.map_drop,-List.map_append]⟩⟩
 · omega
 · omega
 iterate 9 kernel_rfl
 refine qt (x:=(!(sto ((d.tab.cols.getD i Co.zero).type)))) (congrArg not (Bool.eq_false_iff.2 hb8)) ?_ ?_
 apply qo
 apply qr 5
 refine qY (bL (o:=1) (len:=((wrC low sto d.tab.cols i ((ar (Nat.blt 8 d.tab.cols.length) [] []),(wo low chk d))).1.length)) (l:=(wrC low sto d.tab.cols i ((ar (Nat.blt 8 d.tab.cols.length) [] []),(wo low chk d))).1) (xs:=[.full [.str (d.tab.cols.getD i Co.zero).name]]) (enc:=Ls.v) (sz:=1) (fr:=0) (x:=(.full [.full [.str (d.tab.cols.getD i Co.zero).name]])) kq eb b5 eb rfl kq rfl rfl kq ⟨by decide,by kernel_rfl⟩ kq ep ep) ?_ ?_ ?_
 apply qr 1
 apply qe
 apply ah
 apply ab
 apply qZ [(0,.imm (ms.map Md.v)),(1,.imm (sums.map Sm.v)),(8,.own 1 0 ((wrC low sto d.tab.cols i ((ar (Nat.blt 8 d.tab.cols.length) [] []),(wo low chk d))).1.length+1)),(9,.ptr 2 0),(10,.bool ((wrC low sto d.tab.cols i ((ar (Nat.blt 8 d.tab.cols.length) [] []),(wo low chk d))).2)),(12,nI i),(63,.ptr 2 1),(64,.imm (d.tab.cols.map Co.v)),(65,nI i),(66,.imm ((d.tab.cols.take i).map Co.v)),(67,.ptr 3 0),(68,.str (d.tab.cols.getD i Co.zero).name),(69,.int .i64 (aD (d.tab.cols.take i) ((d.tab.cols.getD i Co.zero).name))),(70,.bool (decide ((aD (d.tab.cols.take i) ((d.tab.cols.getD i Co.zero).name)) ≥ 0)))] [.box (Dc.cs d),.arr 1 ((wrC low sto d.tab.cols i ((ar (Nat.blt 8 d.tab.cols.length) [] []),(wo low chk d))).1.map Ls.v++[.full [.str (d.tab.cols.getD i Co.zero).name]]) 0,.box (Tb.cs d.tab),.box [.str (d.tab.cols.getD i Co.zero).name,.int .i64 ((d.tab.cols.getD i Co.zero).type.kind),.str (d.tab.cols.getD i Co.zero).type.name,.int .i64 ((d.tab.cols.getD i Co.zero).type.n),.imm ((d.tab.cols.getD i Co.zero).type.names.map aa.str),.imm ((d.tab.cols.getD i Co.zero).type.kids.map Ty.enc)]]
 refine ed 1 (sz:=1) (fr:=0) (es:=((wrC low sto d.tab.cols i ((ar (Nat.blt 8 d.tab.cols.length) [] []),(wo low chk d))).1.map Ls.v++[.full [.str (d.tab.cols.getD i Co.zero).name]])) (((wrC low sto d.tab.cols i ((ar (Nat.blt 8 d.tab.cols.length) [] []),(wo low chk d))).1++[[(d.tab.cols.getD i Co.zero).name]]).map Ls.v) kq eY kV ?_
 refine fY 8 (.own 1 0 ((wrC low sto d.tab.cols i ((ar (Nat.blt 8 d.tab.cols.length) [] []),(wo low chk d))).1.length+1)) (.own 1 0 ((wrC low sto d.tab.cols i ((ar (Nat.blt 8 d.tab.cols.length) [] []),(wo low chk d))).1++[[(d.tab.cols.getD i Co.zero).name]]).length) kq zq ?_
 apply qZ [(0,.imm (ms.map Md.v)),(1,.imm (sums.map Sm.v)),(8,.own 1 0 ((wrC low sto d.tab.cols i ((ar (Nat.blt 8 d.tab.cols.length) [] []),(wo low chk d))).1++[[(d.tab.cols.getD i Co.zero).name]]).length),(9,.ptr 2 0),(10,.bool ((wrC low sto d.tab.cols i ((ar (Nat.blt 8 d.tab.cols.length) [] []),(wo low chk d))).2)),(12,nI i),(63,.ptr 2 1),(64,.imm (d.tab.cols.map Co.v)),(65,nI i),(66,.imm ((d.tab.cols.take i).map Co.v)),(67,.ptr 3 0),(68,.str (d.tab.cols.getD i Co.zero).name),(69,.int .i64 (aD (d.tab.cols.take i) ((d.tab.cols.getD i Co.zero).name))),(70,.bool (decide ((aD (d.tab.cols.take i) ((d.tab.cols.getD i Co.zero).name)) ≥ 0)))] [.box (Dc.cs d),.arr 1 (((wrC low sto d.tab.cols i ((ar (Nat.blt 8 d.tab.cols.length) [] []),(wo low chk d))).1++[[(d.tab.cols.getD i Co.zero).name]]).map Ls.v) 0,.box (Tb.cs d.tab),.box [.str (d.tab.cols.getD i Co.zero).name,.int .i64 ((d.tab.cols.getD i Co.zero).type.kind),.str (d.tab.cols.getD i Co.zero).type.name,.int .i64 ((d.tab.cols.getD i Co.zero).type.n),.imm ((d.tab.cols.getD i Co.zero).type.names.map aa.str),.imm ((d.tab.cols.getD i Co.zero).type.kids.map Ty.enc)]]
 apply qo
 apply qr 1
 refine qy (aI (a:=((i:Nat):Int)) (b:=1) kq oq oq) ?_ ?_ ?_
 apply qr 1
 apply qe
 refine ab ⟨i+1,?_,?_,⟨⟨kq,kq,(Eq.trans (b:=.own 1 0 ((wrC low sto d.tab.cols i ((ar (Nat.blt 8 d.tab.cols.length) [] []),(wo low chk d))).1++[[(d.tab.cols.getD i Co.zero).name]]).length) kq BA),kq,(Eq.trans (b:=.bool ((wrC low sto d.tab.cols i ((ar (Nat.blt 8 d.tab.cols.length) [] []),(wo low chk d))).2)) kq (by rw [gi (b:=false) (c:=false) (xl aq aq) (Bool.eq_false_iff.2 aq)] <;> simp)),kq,trivial⟩,by simp [aG,aa.bel],by simp,(Eq.trans (b:=[.box (Dc.cs d),.arr 1 (((wrC low sto d.tab.cols i ((ar (Nat.blt 8 d.tab.cols.length) [] []),(wo low chk d))).1++[[(d.tab.cols.getD i Co.zero).name]]).map Ls.v) 0,.box (Tb.cs d.tab)]) kq BA),by simp [ai.belO,av,aa.bel,Ty.v,Ex.v,Ct.v,Co.v,Rf.v,Sm.v,Tb.v_cs,Sc.v,Md.v,Pb.v,Ls.v,-List.map_take,-List.map_drop,-List.map_append]⟩⟩
 · omega
 · omega
 iterate 28 kernel_rfl
 refine bQ 61 (.bool (!(low ((d.tab.cols.getD i Co.zero).name)))) (.bool true) (bO ap) kq (congrArg aa.bool (congrArg not (Bool.eq_false_iff.2 hb5))) ?_
 refine bQ 62 (.bool (!(low ((d.tab.cols.getD i Co.zero).name)))) (.bool true) (bO ap) kq (congrArg aa.bool (congrArg not (Bool.eq_false_iff.2 hb5))) ?_
 apply qu 9
 refine bG kq ⟨kq,?_⟩
 apply ab
 apply qZ [(0,.imm (ms.map Md.v)),(1,.imm (sums.map Sm.v)),(8,.own 1 0 (wrC low sto d.tab.cols i ((ar (Nat.blt 8 d.tab.cols.length) [] []),(wo low chk d))).1.length),(9,.ptr 2 0),(10,.bool ((wrC low sto d.tab.cols i ((ar (Nat.blt 8 d.tab.cols.length) [] []),(wo low chk d))).2)),(12,nI i),(13,.ptr 3 0),(63,.tup []),(64,.tup []),(65,.tup []),(66,.tup []),(67,.tup []),(68,.tup []),(69,.tup []),(70,.tup []),(71,.bool true)] [.box (Dc.cs d),.arr 1 ((wrC low sto d.tab.cols i ((ar (Nat.blt 8 d.tab.cols.length) [] []),(wo low chk d))).1.map Ls.v) 0,.box (Tb.cs d.tab),.box [.str (d.tab.cols.getD i Co.zero).name,.int .i64 ((d.tab.cols.getD i Co.zero).type.kind),.str (d.tab.cols.getD i Co.zero).type.name,.int .i64 ((d.tab.cols.getD i Co.zero).type.n),.imm ((d.tab.cols.getD i Co.zero).type.names.map aa.str),.imm ((d.tab.cols.getD i Co.zero).type.kids.map Ty.enc)]]
 refine cU kq kq ?_
 apply qo
 apply qR 1 [(0,.imm (ms.map Md.v)),(1,.imm (sums.map Sm.v)),(8,.own 1 0 (wrC low sto d.tab.cols i ((ar (Nat.blt 8 d.tab.cols.length) [] []),(wo low chk d))).1.length),(9,.ptr 2 0),(10,.bool true),(12,nI i),(13,.ptr 3 0),(63,.tup []),(64,.tup []),(65,.tup []),(66,.tup []),(67,.tup []),(68,.tup []),(69,.tup []),(70,.tup [])] [.box (Dc.cs d),.arr 1 ((wrC low sto d.tab.cols i ((ar (Nat.blt 8 d.tab.cols.length) [] []),(wo low chk d))).1.map Ls.v) 0,.box (Tb.cs d.tab),.box [.str (d.tab.cols.getD i Co.zero).name,.int .i64 ((d.tab.cols.getD i Co.zero).type.kind),.str (d.tab.cols.getD i Co.zero).type.name,.int .i64 ((d.tab.cols.getD i Co.zero).type.n),.imm ((d.tab.cols.getD i Co.zero).type.names.map aa.str),.imm ((d.tab.cols.getD i Co.zero).type.kids.map Ty.enc)]]
 apply qV 3
 refine bj (args:=[.imm (sums.map Sm.v),.agg [.int .i64 ((d.tab.cols.getD i Co.zero).type.kind),.str (d.tab.cols.getD i Co.zero).type.name,.int .i64 ((d.tab.cols.getD i Co.zero).type.n),.imm ((d.tab.cols.getD i Co.zero).type.names.map aa.str),.imm ((d.tab.cols.getD i Co.zero).type.kids.map Ty.enc)]]) kq kq kq kq (hL.hsto i oq) gT gT eY ?_
 apply qR 1 [(0,.imm (ms.map Md.v)),(1,.imm (sums.map Sm.v)),(8,.own 1 0 (wrC low sto d.tab.cols i ((ar (Nat.blt 8 d.tab.cols.length) [] []),(wo low chk d))).1.length),(9,.ptr 2 0),(10,.bool true),(12,nI i),(13,.ptr 3 0),(15,.bool (sto ((d.tab.cols.getD i Co.zero).type))),(63,.tup []),(64,.tup []),(65,.tup []),(66,.tup []),(67,.tup []),(68,.tup []),(69,.tup []),(70,.tup [])] [.box (Dc.cs d),.arr 1 ((wrC low sto d.tab.cols i ((ar (Nat.blt 8 d.tab.cols.length) [] []),(wo low chk d))).1.map Ls.v) 0,.box (Tb.cs d.tab),.box [.str (d.tab.cols.getD i Co.zero).name,.int .i64 ((d.tab.cols.getD i Co.zero).type.kind),.str (d.tab.cols.getD i Co.zero).type.name,.int .i64 ((d.tab.cols.getD i Co.zero).type.n),.imm ((d.tab.cols.getD i Co.zero).type.names.map aa.str),.imm ((d.tab.cols.getD i Co.zero).type.kids.map Ty.enc)]]
 apply qU 2 [(0,.imm (ms.map Md.v)),(1,.imm (sums.map Sm.v)),(8,.own 1 0 (wrC low sto d.tab.cols i ((ar (Nat.blt 8 d.tab.cols.length) [] []),(wo low chk d))).1.length),(9,.ptr 2 0),(10,.bool true),(12,nI i),(13,.ptr 3 0),(63,.tup []),(64,.tup []),(65,.tup []),(66,.tup []),(67,.tup []),(68,.tup []),(69,.tup []),(70,.tup []),(77,.bool (!(sto ((d.tab.cols.getD i Co.zero).type))))]
 by_cases hb9:(sto ((d.tab.cols.getD i Co.zero).type))=true
 refine qf (x:=(!(sto ((d.tab.cols.getD i Co.zero).type)))) (congrArg not (hb9)) ?_ ?_
 apply qk
 apply ah
 apply ab
 apply qz [(0,.imm (ms.map Md.v)),(1,.imm (sums.map Sm.v)),(8,.own 1 0 (wrC low sto d.tab.cols i ((ar (Nat.blt 8 d.tab.cols.length) [] []),(wo low chk d))).1.length),(9,.ptr 2 0),(10,.bool true),(12,nI i),(63,.tup []),(64,.tup []),(65,.tup []),(66,.tup []),(67,.tup []),(68,.tup []),(69,.tup []),(70,.tup [])]
 apply qo
 apply qr 1
 refine qy (aI (a:=((i:Nat):Int)) (b:=1) kq oq oq) ?_ ?_ ?_
 apply qr 1
 apply qe
 refine ab ⟨i+1,?_,?_,⟨⟨kq,kq,(Eq.trans (b:=.own 1 0 (wrC low sto d.tab.cols i ((ar (Nat.blt 8 d.tab.cols.length) [] []),(wo low chk d))).1.length) kq v7),kq,(Eq.trans (b:=.bool true) kq (by rw [gi (b:=true) (c:=true) (xi aq) aq] <;> simp)),kq,trivial⟩,by simp [aG,aa.bel],by simp,(Eq.trans (b:=[.box (Dc.cs d),.arr 1 ((wrC low sto d.tab.cols i ((ar (Nat.blt 8 d.tab.cols.length) [] []),(wo low chk d))).1.map Ls.v) 0,.box (Tb.cs d.tab)]) kq v7),by simp [ai.belO,av,aa.bel,Ty.v,Ex.v,Ct.v,Co.v,Rf.v,Sm.v,Tb.v_cs,Sc.v,Md.v,Pb.v,Ls.v,-List.map_take,-List.map_drop,-List.map_append]⟩⟩
 · omega
 · omega
 iterate 9 kernel_rfl
 refine qt (x:=(!(sto ((d.tab.cols.getD i Co.zero).type)))) (congrArg not (Bool.eq_false_iff.2 hb9)) ?_ ?_
 apply qo
 apply qr 5
 refine qY (bL (o:=1) (len:=((wrC low sto d.tab.cols i ((ar (Nat.blt 8 d.tab.cols.length) [] []),(wo low chk d))).1.length)) (l:=(wrC low sto d.tab.cols i ((ar (Nat.blt 8 d.tab.cols.length) [] []),(wo low chk d))).1) (xs:=[.full [.str (d.tab.cols.getD i Co.zero).name]]) (enc:=Ls.v) (sz:=1) (fr:=0) (x:=(.full [.full [.str (d.tab.cols.getD i Co.zero).name]])) kq eb b5 eb rfl kq rfl rfl kq ⟨by decide,by kernel_rfl⟩ kq ep ep) ?_ ?_ ?_
 apply qr 1
 apply qe
 apply ah
 apply ab
 apply qZ [(0,.imm (ms.map Md.v)),(1,.imm (sums.map Sm.v)),(8,.own 1 0 ((wrC low sto d.tab.cols i ((ar (Nat.blt 8 d.tab.cols.length) [] []),(wo low chk d))).1.length+1)),(9,.ptr 2 0),(10,.bool true),(12,nI i),(63,.tup []),(64,.tup []),(65,.tup []),(66,.tup []),(67,.tup []),(68,.tup []),(69,.tup []),(70,.tup [])] [.box (Dc.cs d),.arr 1 ((wrC low sto d.tab.cols i ((ar (Nat.blt 8 d.tab.cols.length) [] []),(wo low chk d))).1.map Ls.v++[.full [.str (d.tab.cols.getD i Co.zero).name]]) 0,.box (Tb.cs d.tab),.box [.str (d.tab.cols.getD i Co.zero).name,.int .i64 ((d.tab.cols.getD i Co.zero).type.kind),.str (d.tab.cols.getD i Co.zero).type.name,.int .i64 ((d.tab.cols.getD i Co.zero).type.n),.imm ((d.tab.cols.getD i Co.zero).type.names.map aa.str),.imm ((d.tab.cols.getD i Co.zero).type.kids.map Ty.enc)]]
 refine ed 1 (sz:=1) (fr:=0) (es:=((wrC low sto d.tab.cols i ((ar (Nat.blt 8 d.tab.cols.length) [] []),(wo low chk d))).1.map Ls.v++[.full [.str (d.tab.cols.getD i Co.zero).name]])) (((wrC low sto d.tab.cols i ((ar (Nat.blt 8 d.tab.cols.length) [] []),(wo low chk d))).1++[[(d.tab.cols.getD i Co.zero).name]]).map Ls.v) kq eY kV ?_
 refine fY 8 (.own 1 0 ((wrC low sto d.tab.cols i ((ar (Nat.blt 8 d.tab.cols.length) [] []),(wo low chk d))).1.length+1)) (.own 1 0 ((wrC low sto d.tab.cols i ((ar (Nat.blt 8 d.tab.cols.length) [] []),(wo low chk d))).1++[[(d.tab.cols.getD i Co.zero).name]]).length) kq zq ?_
 apply qZ [(0,.imm (ms.map Md.v)),(1,.imm (sums.map Sm.v)),(8,.own 1 0 ((wrC low sto d.tab.cols i ((ar (Nat.blt 8 d.tab.cols.length) [] []),(wo low chk d))).1++[[(d.tab.cols.getD i Co.zero).name]]).length),(9,.ptr 2 0),(10,.bool true),(12,nI i),(63,.tup []),(64,.tup []),(65,.tup []),(66,.tup []),(67,.tup []),(68,.tup []),(69,.tup []),(70,.tup [])] [.box (Dc.cs d),.arr 1 (((wrC low sto d.tab.cols i ((ar (Nat.blt 8 d.tab.cols.length) [] []),(wo low chk d))).1++[[(d.tab.cols.getD i Co.zero).name]]).map Ls.v) 0,.box (Tb.cs d.tab),.box [.str (d.tab.cols.getD i Co.zero).name,.int .i64 ((d.tab.cols.getD i Co.zero).type.kind),.str (d.tab.cols.getD i Co.zero).type.name,.int .i64 ((d.tab.cols.getD i Co.zero).type.n),.imm ((d.tab.cols.getD i Co.zero).type.names.map aa.str),.imm ((d.tab.cols.getD i Co.zero).type.kids.map Ty.enc)]]
 apply qo
 apply qr 1
 refine qy (aI (a:=((i:Nat):Int)) (b:=1) kq oq oq) ?_ ?_ ?_
 apply qr 1
 apply qe
 refine ab ⟨i+1,?_,?_,⟨⟨kq,kq,(Eq.trans (b:=.own 1 0 ((wrC low sto d.tab.cols i ((ar (Nat.blt 8 d.tab.cols.length) [] []),(wo low chk d))).1++[[(d.tab.cols.getD i Co.zero).name]]).length) kq Bp),kq,(Eq.trans (b:=.bool true) kq (by rw [gi (b:=true) (c:=false) (xi aq) (Bool.eq_false_iff.2 aq)] <;> simp)),kq,trivial⟩,by simp [aG,aa.bel],by simp,(Eq.trans (b:=[.box (Dc.cs d),.arr 1 (((wrC low sto d.tab.cols i ((ar (Nat.blt 8 d.tab.cols.length) [] []),(wo low chk d))).1++[[(d.tab.cols.getD i Co.zero).name]]).map Ls.v) 0,.box (Tb.cs d.tab)]) kq Bp),by simp [ai.belO,av,aa.bel,Ty.v,Ex.v,Ct.v,Co.v,Rf.v,Sm.v,Tb.v_cs,Sc.v,Md.v,Pb.v,Ls.v,-List.map_take,-List.map_drop,-List.map_append]⟩⟩
 · omega
 · omega
 iterate 38 kernel_rfl
 apply qf (decide_eq_false hb4)
 refine a6 0 kq kq ?_
 apply af
 apply af
 apply aE
 apply ab
 apply qz [(0,.imm (ms.map Md.v)),(8,.own 1 0 (wrC low sto d.tab.cols i ((ar (Nat.blt 8 d.tab.cols.length) [] []),(wo low chk d))).1.length),(9,.ptr 2 0),(10,.bool ((wrC low sto d.tab.cols i ((ar (Nat.blt 8 d.tab.cols.length) [] []),(wo low chk d))).2))]
 refine ov (σ:=Unit) (fun _=>[(0,.imm (ms.map Md.v)),(8,.own 1 0 (ar (aj d.tab) [] (wr1 low sto (fun e=>chk e==0) d).1).length),(9,.ptr 2 0),(10,.bool ((wr1 low sto (fun e=>chk e==0) d).2))]) (fun _=>[.box (Dc.cs d),.arr 1 ((ar (aj d.tab) [] (wr1 low sto (fun e=>chk e==0) d).1).map Ls.v) 0,.box (Tb.cs d.tab)]) (fun _=>True) kq ?_ ?_
 apply qV 2
 refine qy (aw (l:=d.tab.key) (enc:=aa.str) kq b5) ?_ ?_ ?_
 apply qr 2
 by_cases hb10:((d.tab.key.length:Nat):Int)<1
 apply qm [87,88] (decide_eq_true hb10)
 apply qR 5 [(0,.imm (ms.map Md.v)),(8,.own 1 0 (wrC low sto d.tab.cols i ((ar (Nat.blt 8 d.tab.cols.length) [] []),(wo low chk d))).1.length),(9,.ptr 2 0),(10,.bool ((wrC low sto d.tab.cols i ((ar (Nat.blt 8 d.tab.cols.length) [] []),(wo low chk d))).2)),(93,.bool true)] [.box (Dc.cs d),.arr 1 ((wrC low sto d.tab.cols i ((ar (Nat.blt 8 d.tab.cols.length) [] []),(wo low chk d))).1.map Ls.v) 0,.box (Tb.cs d.tab)]
 refine cU kq kq ?_
 apply qo
 apply qr 2
 refine qY (bL (o:=1) (len:=((wrC low sto d.tab.cols i ((ar (Nat.blt 8 d.tab.cols.length) [] []),(wo low chk d))).1.length)) (l:=(wrC low sto d.tab.cols i ((ar (Nat.blt 8 d.tab.cols.length) [] []),(wo low chk d))).1) (xs:=[.full []]) (enc:=Ls.v) (sz:=1) (fr:=0) (x:=(.full [.full []])) kq eb b5 eb rfl kq rfl rfl kq ⟨by decide,by kernel_rfl⟩ kq ep ep) ?_ ?_ ?_
 apply qr 1
 apply qe
 refine ab (fun d_ Q_ hk_=>?_)
 apply qZ [(0,.imm (ms.map Md.v)),(8,.own 1 0 ((wrC low sto d.tab.cols i ((ar (Nat.blt 8 d.tab.cols.length) [] []),(wo low chk d))).1.length+1)),(9,.ptr 2 0),(10,.bool ((wrC low sto d.tab.cols i ((ar (Nat.blt 8 d.tab.cols.length) [] []),(wo low chk d))).2))] [.box (Dc.cs d),.arr 1 ((wrC low sto d.tab.cols i ((ar (Nat.blt 8 d.tab.cols.length) [] []),(wo low chk d))).1.map Ls.v++[.full []]) 0,.box (Tb.cs d.tab)]
 refine ed 1 (sz:=1) (fr:=0) (es:=((wrC low sto d.tab.cols i ((ar (Nat.blt 8 d.tab.cols.length) [] []),(wo low chk d))).1.map Ls.v++[.full []])) (((wrC low sto d.tab.cols i ((ar (Nat.blt 8 d.tab.cols.length) [] []),(wo low chk d))).1++[[]]).map Ls.v) kq eY kV ?_
 refine fY 8 (.own 1 0 ((wrC low sto d.tab.cols i ((ar (Nat.blt 8 d.tab.cols.length) [] []),(wo low chk d))).1.length+1)) (.own 1 0 ((wrC low sto d.tab.cols i ((ar (Nat.blt 8 d.tab.cols.length) [] []),(wo low chk d))).1++[[]]).length) kq zq ?_
 refine hk_ _ _ ⟨(),?_,⟨⟨kq,(Eq.trans (b:=.own 1 0 ((wrC low sto d.tab.cols i ((ar (Nat.blt 8 d.tab.cols.length) [] []),(wo low chk d))).1++[[]]).length) kq ul),kq,(Eq.trans (b:=.bool ((wrC low sto d.tab.cols i ((ar (Nat.blt 8 d.tab.cols.length) [] []),(wo low chk d))).2)) kq zG),trivial⟩,by simp [aG,aa.bel],by simp,(Eq.trans (b:=[.box (Dc.cs d),.arr 1 (((wrC low sto d.tab.cols i ((ar (Nat.blt 8 d.tab.cols.length) [] []),(wo low chk d))).1++[[]]).map Ls.v) 0,.box (Tb.cs d.tab)]) kq ul),by simp [ai.belO,av,aa.bel,Ty.v,Ex.v,Ct.v,Co.v,Rf.v,Sm.v,Tb.v_cs,Sc.v,Md.v,Pb.v,Ls.v,-List.map_take,-List.map_drop,-List.map_append]⟩⟩
 · trivial
 iterate 9 kernel_rfl
 apply qm [87,88] (decide_eq_false hb10)
 apply qr 2
 refine qy (aw (l:=d.tab.key) (enc:=aa.str) kq b5) ?_ ?_ ?_
 apply qR 2 [(0,.imm (ms.map Md.v)),(8,.own 1 0 (wrC low sto d.tab.cols i ((ar (Nat.blt 8 d.tab.cols.length) [] []),(wo low chk d))).1.length),(9,.ptr 2 0),(10,.bool ((wrC low sto d.tab.cols i ((ar (Nat.blt 8 d.tab.cols.length) [] []),(wo low chk d))).2)),(93,.bool (decide (((d.tab.key.length:Nat):Int) > 3)))] [.box (Dc.cs d),.arr 1 ((wrC low sto d.tab.cols i ((ar (Nat.blt 8 d.tab.cols.length) [] []),(wo low chk d))).1.map Ls.v) 0,.box (Tb.cs d.tab)]
 by_cases hb11:((d.tab.key.length:Nat):Int) > 3
 apply qt (decide_eq_true hb11)
 apply qo
 apply qr 2
 refine qY (bL (o:=1) (len:=((wrC low sto d.tab.cols i ((ar (Nat.blt 8 d.tab.cols.length) [] []),(wo low chk d))).1.length)) (l:=(wrC low sto d.tab.cols i ((ar (Nat.blt 8 d.tab.cols.length) [] []),(wo low chk d))).1) (xs:=[.full []]) (enc:=Ls.v) (sz:=1) (fr:=0) (x:=(.full [.full []])) kq eb b5 eb rfl kq rfl rfl kq ⟨by decide,by kernel_rfl⟩ kq ep ep) ?_ ?_ ?_
 apply qr 1
 apply qe
 refine ab (fun d_ Q_ hk_=>?_)
 apply qZ [(0,.imm (ms.map Md.v)),(8,.own 1 0 ((wrC low sto d.tab.cols i ((ar (Nat.blt 8 d.tab.cols.length) [] []),(wo low chk d))).1.length+1)),(9,.ptr 2 0),(10,.bool ((wrC low sto d.tab.cols i ((ar (Nat.blt 8 d.tab.cols.length) [] []),(wo low chk d))).2))] [.box (Dc.cs d),.arr 1 ((wrC low sto d.tab.cols i ((ar (Nat.blt 8 d.tab.cols.length) [] []),(wo low chk d))).1.map Ls.v++[.full []]) 0,.box (Tb.cs d.tab)]
 refine ed 1 (sz:=1) (fr:=0) (es:=((wrC low sto d.tab.cols i ((ar (Nat.blt 8 d.tab.cols.length) [] []),(wo low chk d))).1.map Ls.v++[.full []])) (((wrC low sto d.tab.cols i ((ar (Nat.blt 8 d.tab.cols.length) [] []),(wo low chk d))).1++[[]]).map Ls.v) kq eY kV ?_
 refine fY 8 (.own 1 0 ((wrC low sto d.tab.cols i ((ar (Nat.blt 8 d.tab.cols.length) [] []),(wo low chk d))).1.length+1)) (.own 1 0 ((wrC low sto d.tab.cols i ((ar (Nat.blt 8 d.tab.cols.length) [] []),(wo low chk d))).1++[[]]).length) kq zq ?_
 refine hk_ _ _ ⟨(),?_,⟨⟨kq,(Eq.trans (b:=.own 1 0 ((wrC low sto d.tab.cols i ((ar (Nat.blt 8 d.tab.cols.length) [] []),(wo low chk d))).1++[[]]).length) kq ul),kq,(Eq.trans (b:=.bool ((wrC low sto d.tab.cols i ((ar (Nat.blt 8 d.tab.cols.length) [] []),(wo low chk d))).2)) kq zG),trivial⟩,by simp [aG,aa.bel],by simp,(Eq.trans (b:=[.box (Dc.cs d),.arr 1 (((wrC low sto d.tab.cols i ((ar (Nat.blt 8 d.tab.cols.length) [] []),(wo low chk d))).1++[[]]).map Ls.v) 0,.box (Tb.cs d.tab)]) kq ul),by simp [ai.belO,av,aa.bel,Ty.v,Ex.v,Ct.v,Co.v,Rf.v,Sm.v,Tb.v_cs,Sc.v,Md.v,Pb.v,Ls.v,-List.map_take,-List.map_drop,-List.map_append]⟩⟩
 · trivial
 iterate 8 kernel_rfl
 apply qf (decide_eq_false hb11)
 apply qk
 refine ab (fun d_ Q_ hk_=>?_)
 apply qz [(0,.imm (ms.map Md.v)),(8,.own 1 0 (wrC low sto d.tab.cols i ((ar (Nat.blt 8 d.tab.cols.length) [] []),(wo low chk d))).1.length),(9,.ptr 2 0),(10,.bool ((wrC low sto d.tab.cols i ((ar (Nat.blt 8 d.tab.cols.length) [] []),(wo low chk d))).2))]
 refine hk_ _ _ ⟨(),?_,⟨⟨kq,(Eq.trans (b:=.own 1 0 (wrC low sto d.tab.cols i ((ar (Nat.blt 8 d.tab.cols.length) [] []),(wo low chk d))).1.length) kq ul),kq,(Eq.trans (b:=.bool ((wrC low sto d.tab.cols i ((ar (Nat.blt 8 d.tab.cols.length) [] []),(wo low chk d))).2)) kq zG),trivial⟩,by simp [aG,aa.bel],by simp,(Eq.trans (b:=[.box (Dc.cs d),.arr 1 ((wrC low sto d.tab.cols i ((ar (Nat.blt 8 d.tab.cols.length) [] []),(wo low chk d))).1.map Ls.v) 0,.box (Tb.cs d.tab)]) kq ul),by simp [ai.belO,av,aa.bel,Ty.v,Ex.v,Ct.v,Co.v,Rf.v,Sm.v,Tb.v_cs,Sc.v,Md.v,Pb.v,Ls.v,-List.map_take,-List.map_drop,-List.map_append]⟩⟩
 · trivial
 iterate 12 kernel_rfl
 rintro _ _
 apply az
 refine qW 1 [(0,.imm (ms.map Md.v)),(8,.own 1 0 (ar (aj d.tab) [] (wr1 low sto (fun e=>chk e==0) d).1).length),(9,.ptr 2 0),(10,.bool ((wr1 low sto (fun e=>chk e==0) d).2)),(16,.int .i64 0)] [.box (Dc.cs d),.arr 1 ((ar (aj d.tab) [] (wr1 low sto (fun e=>chk e==0) d).1).map Ls.v) 0,.box (Tb.cs d.tab)] ?_ ?_
 apply qB 2
 refine bn (σ:=Nat) (fun k=>[(0,.imm (ms.map Md.v)),(8,.own 1 0 (wrK d.tab k ((ar (aj d.tab) [] (wr1 low sto (fun e=>chk e==0) d).1),(wr1 low sto (fun e=>chk e==0) d).2)).1.length),(9,.ptr 2 0),(10,.bool ((wrK d.tab k ((ar (aj d.tab) [] (wr1 low sto (fun e=>chk e==0) d).1),(wr1 low sto (fun e=>chk e==0) d).2)).2)),(16,.int .i64 ((k:Nat):Int))]) (fun k=>[.box (Dc.cs d),.arr 1 ((wrK d.tab k ((ar (aj d.tab) [] (wr1 low sto (fun e=>chk e==0) d).1),(wr1 low sto (fun e=>chk e==0) d).2)).1.map Ls.v) 0,.box (Tb.cs d.tab)]) (fun k=>k≤d.tab.key.length) (fun k=>d.tab.key.length - k) 0 kq (by exact Nat.zero_le _) ⟨⟨kq,(Eq.trans (b:=.own 1 0 (ar (aj d.tab) [] (wr1 low sto (fun e=>chk e==0) d).1).length) kq kq),kq,(Eq.trans (b:=.bool ((wr1 low sto (fun e=>chk e==0) d).2)) kq kq),kq,trivial⟩,by simp [aG,aa.bel],by simp,(Eq.trans (b:=[.box (Dc.cs d),.arr 1 ((ar (aj d.tab) [] (wr1 low sto (fun e=>chk e==0) d).1).map Ls.v) 0,.box (Tb.cs d.tab)]) kq kq),by simp [ai.belO,av,aa.bel,Ty.v,Ex.v,Ct.v,Co.v,Rf.v,Sm.v,Tb.v_cs,Sc.v,Md.v,Pb.v,Ls.v,-List.map_take,-List.map_drop,-List.map_append]⟩ ?_
 rintro k hk
 have hkl:(wrK d.tab k ((ar (aj d.tab) [] (wr1 low sto (fun e=>chk e==0) d).1),(wr1 low sto (fun e=>chk e==0) d).2)).1.length≤(ar (aj d.tab) [] (wr1 low sto (fun e=>chk e==0) d).1).length+k:=oC (t:=d.tab) ((ar (aj d.tab) [] (wr1 low sto (fun e=>chk e==0) d).1),(wr1 low sto (fun e=>chk e==0) d).2) k
 have hk0:=hW1
 apply az
 apply qV 3
 refine qy (aw (l:=d.tab.key) (enc:=aa.str) kq b5) ?_ ?_ ?_
 refine qR 1 [(0,.imm (ms.map Md.v)),(8,.own 1 0 (wrK d.tab k ((ar (aj d.tab) [] (wr1 low sto (fun e=>chk e==0) d).1),(wr1 low sto (fun e=>chk e==0) d).2)).1.length),(9,.ptr 2 0),(10,.bool ((wrK d.tab k ((ar (aj d.tab) [] (wr1 low sto (fun e=>chk e==0) d).1),(wr1 low sto (fun e=>chk e==0) d).2)).2)),(16,nI k),(101,.bool (decide (((k:Nat):Int)<((d.tab.key.length:Nat):Int))))] [.box (Dc.cs d),.arr 1 ((wrK d.tab k ((ar (aj d.tab) [] (wr1 low sto (fun e=>chk e==0) d).1),(wr1 low sto (fun e=>chk e==0) d).2)).1.map Ls.v) 0,.box (Tb.cs d.tab)] ?_ ?_
 by_cases hb12:((k:Nat):Int)<((d.tab.key.length:Nat):Int)
 apply qt (decide_eq_true hb12)
 apply qK
 refine qz [(0,.imm (ms.map Md.v)),(8,.own 1 0 (wrK d.tab k ((ar (aj d.tab) [] (wr1 low sto (fun e=>chk e==0) d).1),(wr1 low sto (fun e=>chk e==0) d).2)).1.length),(9,.ptr 2 0),(10,.bool ((wrK d.tab k ((ar (aj d.tab) [] (wr1 low sto (fun e=>chk e==0) d).1),(wr1 low sto (fun e=>chk e==0) d).2)).2)),(16,nI k)] ?_ ?_
 apply az
 apply qB 3
 apply az
 apply az
 refine b6 cxM kq ap (aU ?_)
 apply qu 5
 refine qd (aA (k:=.i64) (l:=d.tab.key) (enc:=aa.str) (i:=((k:Nat):Int)) [] kq b5 ty9 (fun _=>rfl) oq oq) ?_ ?_ ?_ ?_
 apply qu 1
 refine cc (args:=[.imm (d.tab.cols.map Co.v),.str (d.tab.key.getD k [])]) kq kq kq kq kq (fe d.tab.cols (d.tab.key.getD k []) oq) v6 gT eY ?_
 apply qu 1
 refine bG kq ⟨kq,?_⟩
 apply ab
 refine qZ [(0,.imm (ms.map Md.v)),(8,.own 1 0 (wrK d.tab k ((ar (aj d.tab) [] (wr1 low sto (fun e=>chk e==0) d).1),(wr1 low sto (fun e=>chk e==0) d).2)).1.length),(9,.ptr 2 0),(10,.bool ((wrK d.tab k ((ar (aj d.tab) [] (wr1 low sto (fun e=>chk e==0) d).1),(wr1 low sto (fun e=>chk e==0) d).2)).2)),(16,nI k),(112,.bool (decide ((aD d.tab.cols (d.tab.key.getD k []))<0)))] [.box (Dc.cs d),.arr 1 ((wrK d.tab k ((ar (aj d.tab) [] (wr1 low sto (fun e=>chk e==0) d).1),(wr1 low sto (fun e=>chk e==0) d).2)).1.map Ls.v) 0,.box (Tb.cs d.tab)] ?_ ?_
 by_cases hb13:(aD d.tab.cols (d.tab.key.getD k []))<0
 apply qt (decide_eq_true hb13)
 apply qo
 refine qR 1 [(0,.imm (ms.map Md.v)),(8,.own 1 0 (wrK d.tab k ((ar (aj d.tab) [] (wr1 low sto (fun e=>chk e==0) d).1),(wr1 low sto (fun e=>chk e==0) d).2)).1.length),(9,.ptr 2 0),(10,.bool true),(16,nI k)] [.box (Dc.cs d),.arr 1 ((wrK d.tab k ((ar (aj d.tab) [] (wr1 low sto (fun e=>chk e==0) d).1),(wr1 low sto (fun e=>chk e==0) d).2)).1.map Ls.v) 0,.box (Tb.cs d.tab)] ?_ ?_
 apply az
 refine b6 cxM kq ap (aU ?_)
 apply qu 3
 refine qd (dj (lo:=none) (hi:=(some (.int .i64 ((k:Nat):Int)))) (l:=d.tab.key) (enc:=aa.str) (x:=0) (y:=((k:Nat):Int)) kq b5 ty9 (fun _=>rfl) kq kq oq oq oq) ?_ ?_ ?_ ?_
 apply qu 3
 refine qd (aA (k:=.i64) (l:=d.tab.key) (enc:=aa.str) (i:=((k:Nat):Int)) [] kq b5 ty9 (fun _=>rfl) oq oq) ?_ ?_ ?_ ?_
 apply qu 1
 refine cc (args:=[.imm ((d.tab.key.take k).map aa.str),.str (d.tab.key.getD k [])]) kq kq kq kq kq (mn (d.tab.key.take k) (d.tab.key.getD k []) ep) v6 gT eY ?_
 apply qu 1
 refine bG kq ⟨kq,?_⟩
 apply ab
 refine qZ [(0,.imm (ms.map Md.v)),(8,.own 1 0 (wrK d.tab k ((ar (aj d.tab) [] (wr1 low sto (fun e=>chk e==0) d).1),(wr1 low sto (fun e=>chk e==0) d).2)).1.length),(9,.ptr 2 0),(10,.bool true),(16,nI k),(123,.bool (decide ((aS (d.tab.key.take k) (d.tab.key.getD k [])) ≥ 0)))] [.box (Dc.cs d),.arr 1 ((wrK d.tab k ((ar (aj d.tab) [] (wr1 low sto (fun e=>chk e==0) d).1),(wr1 low sto (fun e=>chk e==0) d).2)).1.map Ls.v) 0,.box (Tb.cs d.tab)] ?_ ?_
 by_cases hb14:(aS (d.tab.key.take k) (d.tab.key.getD k [])) ≥ 0
 apply qt (decide_eq_true hb14)
 apply qo
 apply qr 4
 refine qy (aA (k:=.i64) (l:=d.tab.key) (enc:=aa.str) (i:=((k:Nat):Int)) [] kq b5 ty9 (fun _=>rfl) oq oq) ?_ ?_ ?_
 apply qr 3
 refine qY (bL (o:=1) (len:=((wrK d.tab k ((ar (aj d.tab) [] (wr1 low sto (fun e=>chk e==0) d).1),(wr1 low sto (fun e=>chk e==0) d).2)).1.length)) (l:=(wrK d.tab k ((ar (aj d.tab) [] (wr1 low sto (fun e=>chk e==0) d).1),(wr1 low sto (fun e=>chk e==0) d).2)).1) (xs:=[.full [.str (d.tab.key.getD k [])]]) (enc:=Ls.v) (sz:=1) (fr:=0) (x:=(.full [.full [.str (d.tab.key.getD k [])]])) kq eb b5 eb rfl kq rfl rfl kq ⟨by decide,by kernel_rfl⟩ kq ep ep) ?_ ?_ ?_
 apply qr 1
 apply qe
 apply ah
 apply ab
 refine qZ [(0,.imm (ms.map Md.v)),(8,.own 1 0 ((wrK d.tab k ((ar (aj d.tab) [] (wr1 low sto (fun e=>chk e==0) d).1),(wr1 low sto (fun e=>chk e==0) d).2)).1.length+1)),(9,.ptr 2 0),(10,.bool true),(16,nI k)] [.box (Dc.cs d),.arr 1 ((wrK d.tab k ((ar (aj d.tab) [] (wr1 low sto (fun e=>chk e==0) d).1),(wr1 low sto (fun e=>chk e==0) d).2)).1.map Ls.v++[.full [.str (d.tab.key.getD k [])]]) 0,.box (Tb.cs d.tab)] ?_ ?_
 refine ed 1 (sz:=1) (fr:=0) (es:=((wrK d.tab k ((ar (aj d.tab) [] (wr1 low sto (fun e=>chk e==0) d).1),(wr1 low sto (fun e=>chk e==0) d).2)).1.map Ls.v++[.full [.str (d.tab.key.getD k [])]])) (((wrK d.tab k ((ar (aj d.tab) [] (wr1 low sto (fun e=>chk e==0) d).1),(wr1 low sto (fun e=>chk e==0) d).2)).1++[[(d.tab.key.getD k [])]]).map Ls.v) kq eY kV ?_
 refine fY 8 (.own 1 0 ((wrK d.tab k ((ar (aj d.tab) [] (wr1 low sto (fun e=>chk e==0) d).1),(wr1 low sto (fun e=>chk e==0) d).2)).1.length+1)) (.own 1 0 ((wrK d.tab k ((ar (aj d.tab) [] (wr1 low sto (fun e=>chk e==0) d).1),(wr1 low sto (fun e=>chk e==0) d).2)).1++[[(d.tab.key.getD k [])]]).length) kq zq ?_
 refine qZ [(0,.imm (ms.map Md.v)),(8,.own 1 0 ((wrK d.tab k ((ar (aj d.tab) [] (wr1 low sto (fun e=>chk e==0) d).1),(wr1 low sto (fun e=>chk e==0) d).2)).1++[[(d.tab.key.getD k [])]]).length),(9,.ptr 2 0),(10,.bool true),(16,nI k)] [.box (Dc.cs d),.arr 1 (((wrK d.tab k ((ar (aj d.tab) [] (wr1 low sto (fun e=>chk e==0) d).1),(wr1 low sto (fun e=>chk e==0) d).2)).1++[[(d.tab.key.getD k [])]]).map Ls.v) 0,.box (Tb.cs d.tab)] ?_ ?_
 apply qo
 apply qr 1
 refine qy (aI (a:=((k:Nat):Int)) (b:=1) kq oq oq) ?_ ?_ ?_
 apply qr 1
 apply qe
 refine ab ⟨k+1,?_,?_,⟨⟨kq,(Eq.trans (b:=.own 1 0 ((wrK d.tab k ((ar (aj d.tab) [] (wr1 low sto (fun e=>chk e==0) d).1),(wr1 low sto (fun e=>chk e==0) d).2)).1++[[(d.tab.key.getD k [])]]).length) kq AP),kq,(Eq.trans (b:=.bool true) kq (by rw [kn (b:=false) (c:=true) (iW aq) (pt aq)] <;> simp)),kq,trivial⟩,by simp [aG,aa.bel],by simp,(Eq.trans (b:=[.box (Dc.cs d),.arr 1 (((wrK d.tab k ((ar (aj d.tab) [] (wr1 low sto (fun e=>chk e==0) d).1),(wr1 low sto (fun e=>chk e==0) d).2)).1++[[(d.tab.key.getD k [])]]).map Ls.v) 0,.box (Tb.cs d.tab)]) kq AP),by simp [ai.belO,av,aa.bel,Ty.v,Ex.v,Ct.v,Co.v,Rf.v,Sm.v,Tb.v_cs,Sc.v,Md.v,Pb.v,Ls.v,-List.map_take,-List.map_drop,-List.map_append]⟩⟩
 · omega
 · omega
 iterate 18 kernel_rfl
 apply qf (decide_eq_false hb14)
 apply qk
 apply ah
 apply ab
 refine qz [(0,.imm (ms.map Md.v)),(8,.own 1 0 (wrK d.tab k ((ar (aj d.tab) [] (wr1 low sto (fun e=>chk e==0) d).1),(wr1 low sto (fun e=>chk e==0) d).2)).1.length),(9,.ptr 2 0),(10,.bool true),(16,nI k)] ?_ ?_
 apply qo
 apply qr 1
 refine qy (aI (a:=((k:Nat):Int)) (b:=1) kq oq oq) ?_ ?_ ?_
 apply qr 1
 apply qe
 refine ab ⟨k+1,?_,?_,⟨⟨kq,(Eq.trans (b:=.own 1 0 (wrK d.tab k ((ar (aj d.tab) [] (wr1 low sto (fun e=>chk e==0) d).1),(wr1 low sto (fun e=>chk e==0) d).2)).1.length) kq BT),kq,(Eq.trans (b:=.bool true) kq (by rw [kn (b:=false) (c:=false) (iW aq) (oR aq)] <;> simp)),kq,trivial⟩,by simp [aG,aa.bel],by simp,(Eq.trans (b:=[.box (Dc.cs d),.arr 1 ((wrK d.tab k ((ar (aj d.tab) [] (wr1 low sto (fun e=>chk e==0) d).1),(wr1 low sto (fun e=>chk e==0) d).2)).1.map Ls.v) 0,.box (Tb.cs d.tab)]) kq BT),by simp [ai.belO,av,aa.bel,Ty.v,Ex.v,Ct.v,Co.v,Rf.v,Sm.v,Tb.v_cs,Sc.v,Md.v,Pb.v,Ls.v,-List.map_take,-List.map_drop,-List.map_append]⟩⟩
 · omega
 · omega
 iterate 24 kernel_rfl
 apply qf (decide_eq_false hb13)
 apply qK
 refine qz [(0,.imm (ms.map Md.v)),(8,.own 1 0 (wrK d.tab k ((ar (aj d.tab) [] (wr1 low sto (fun e=>chk e==0) d).1),(wr1 low sto (fun e=>chk e==0) d).2)).1.length),(9,.ptr 2 0),(10,.bool ((wrK d.tab k ((ar (aj d.tab) [] (wr1 low sto (fun e=>chk e==0) d).1),(wr1 low sto (fun e=>chk e==0) d).2)).2)),(16,nI k)] ?_ ?_
 apply az
 refine b6 cxM kq ap (aU ?_)
 apply qu 3
 refine qd (dj (lo:=none) (hi:=(some (.int .i64 ((k:Nat):Int)))) (l:=d.tab.key) (enc:=aa.str) (x:=0) (y:=((k:Nat):Int)) kq b5 ty9 (fun _=>rfl) kq kq oq oq oq) ?_ ?_ ?_ ?_
 apply qu 3
 refine qd (aA (k:=.i64) (l:=d.tab.key) (enc:=aa.str) (i:=((k:Nat):Int)) [] kq b5 ty9 (fun _=>rfl) oq oq) ?_ ?_ ?_ ?_
 apply qu 1
 refine cc (args:=[.imm ((d.tab.key.take k).map aa.str),.str (d.tab.key.getD k [])]) kq kq kq kq kq (mn (d.tab.key.take k) (d.tab.key.getD k []) ep) v6 gT eY ?_
 apply qu 1
 refine bG kq ⟨kq,?_⟩
 apply ab
 refine qZ [(0,.imm (ms.map Md.v)),(8,.own 1 0 (wrK d.tab k ((ar (aj d.tab) [] (wr1 low sto (fun e=>chk e==0) d).1),(wr1 low sto (fun e=>chk e==0) d).2)).1.length),(9,.ptr 2 0),(10,.bool ((wrK d.tab k ((ar (aj d.tab) [] (wr1 low sto (fun e=>chk e==0) d).1),(wr1 low sto (fun e=>chk e==0) d).2)).2)),(16,nI k),(123,.bool (decide ((aS (d.tab.key.take k) (d.tab.key.getD k [])) ≥ 0)))] [.box (Dc.cs d),.arr 1 ((wrK d.tab k ((ar (aj d.tab) [] (wr1 low sto (fun e=>chk e==0) d).1),(wr1 low sto (fun e=>chk e==0) d).2)).1.map Ls.v) 0,.box (Tb.cs d.tab)] ?_ ?_
 by_cases hb15:(aS (d.tab.key.take k) (d.tab.key.getD k [])) ≥ 0
 apply qt (decide_eq_true hb15)
 apply qo
 apply qr 4
 refine qy (aA (k:=.i64) (l:=d.tab.key) (enc:=aa.str) (i:=((k:Nat):Int)) [] kq b5 ty9 (fun _=>rfl) oq oq) ?_ ?_ ?_
 apply qr 3
 refine qY (bL (o:=1) (len:=((wrK d.tab k ((ar (aj d.tab) [] (wr1 low sto (fun e=>chk e==0) d).1),(wr1 low sto (fun e=>chk e==0) d).2)).1.length)) (l:=(wrK d.tab k ((ar (aj d.tab) [] (wr1 low sto (fun e=>chk e==0) d).1),(wr1 low sto (fun e=>chk e==0) d).2)).1) (xs:=[.full [.str (d.tab.key.getD k [])]]) (enc:=Ls.v) (sz:=1) (fr:=0) (x:=(.full [.full [.str (d.tab.key.getD k [])]])) kq eb b5 eb rfl kq rfl rfl kq ⟨by decide,by kernel_rfl⟩ kq ep ep) ?_ ?_ ?_
 apply qr 1
 apply qe
 apply ah
 apply ab
 refine qZ [(0,.imm (ms.map Md.v)),(8,.own 1 0 ((wrK d.tab k ((ar (aj d.tab) [] (wr1 low sto (fun e=>chk e==0) d).1),(wr1 low sto (fun e=>chk e==0) d).2)).1.length+1)),(9,.ptr 2 0),(10,.bool ((wrK d.tab k ((ar (aj d.tab) [] (wr1 low sto (fun e=>chk e==0) d).1),(wr1 low sto (fun e=>chk e==0) d).2)).2)),(16,nI k)] [.box (Dc.cs d),.arr 1 ((wrK d.tab k ((ar (aj d.tab) [] (wr1 low sto (fun e=>chk e==0) d).1),(wr1 low sto (fun e=>chk e==0) d).2)).1.map Ls.v++[.full [.str (d.tab.key.getD k [])]]) 0,.box (Tb.cs d.tab)] ?_ ?_
 refine ed 1 (sz:=1) (fr:=0) (es:=((wrK d.tab k ((ar (aj d.tab) [] (wr1 low sto (fun e=>chk e==0) d).1),(wr1 low sto (fun e=>chk e==0) d).2)).1.map Ls.v++[.full [.str (d.tab.key.getD k [])]])) (((wrK d.tab k ((ar (aj d.tab) [] (wr1 low sto (fun e=>chk e==0) d).1),(wr1 low sto (fun e=>chk e==0) d).2)).1++[[(d.tab.key.getD k [])]]).map Ls.v) kq eY kV ?_
 refine fY 8 (.own 1 0 ((wrK d.tab k ((ar (aj d.tab) [] (wr1 low sto (fun e=>chk e==0) d).1),(wr1 low sto (fun e=>chk e==0) d).2)).1.length+1)) (.own 1 0 ((wrK d.tab k ((ar (aj d.tab) [] (wr1 low sto (fun e=>chk e==0) d).1),(wr1 low sto (fun e=>chk e==0) d).2)).1++[[(d.tab.key.getD k [])]]).length) kq zq ?_
 refine qZ [(0,.imm (ms.map Md.v)),(8,.own 1 0 ((wrK d.tab k ((ar (aj d.tab) [] (wr1 low sto (fun e=>chk e==0) d).1),(wr1 low sto (fun e=>chk e==0) d).2)).1++[[(d.tab.key.getD k [])]]).length),(9,.ptr 2 0),(10,.bool ((wrK d.tab k ((ar (aj d.tab) [] (wr1 low sto (fun e=>chk e==0) d).1),(wr1 low sto (fun e=>chk e==0) d).2)).2)),(16,nI k)] [.box (Dc.cs d),.arr 1 (((wrK d.tab k ((ar (aj d.tab) [] (wr1 low sto (fun e=>chk e==0) d).1),(wr1 low sto (fun e=>chk e==0) d).2)).1++[[(d.tab.key.getD k [])]]).map Ls.v) 0,.box (Tb.cs d.tab)] ?_ ?_
 apply qo
 apply qr 1
 refine qy (aI (a:=((k:Nat):Int)) (b:=1) kq oq oq) ?_ ?_ ?_
 apply qr 1
 apply qe
 refine ab ⟨k+1,?_,?_,⟨⟨kq,(Eq.trans (b:=.own 1 0 ((wrK d.tab k ((ar (aj d.tab) [] (wr1 low sto (fun e=>chk e==0) d).1),(wr1 low sto (fun e=>chk e==0) d).2)).1++[[(d.tab.key.getD k [])]]).length) kq B8),kq,(Eq.trans (b:=.bool ((wrK d.tab k ((ar (aj d.tab) [] (wr1 low sto (fun e=>chk e==0) d).1),(wr1 low sto (fun e=>chk e==0) d).2)).2)) kq (by rw [kn (b:=true) (c:=true) (fm aq) (pt aq)] <;> simp)),kq,trivial⟩,by simp [aG,aa.bel],by simp,(Eq.trans (b:=[.box (Dc.cs d),.arr 1 (((wrK d.tab k ((ar (aj d.tab) [] (wr1 low sto (fun e=>chk e==0) d).1),(wr1 low sto (fun e=>chk e==0) d).2)).1++[[(d.tab.key.getD k [])]]).map Ls.v) 0,.box (Tb.cs d.tab)]) kq B8),by simp [ai.belO,av,aa.bel,Ty.v,Ex.v,Ct.v,Co.v,Rf.v,Sm.v,Tb.v_cs,Sc.v,Md.v,Pb.v,Ls.v,-List.map_take,-List.map_drop,-List.map_append]⟩⟩
 · omega
 · omega
 iterate 18 kernel_rfl
 apply qf (decide_eq_false hb15)
 apply qk
 apply ah
 apply ab
 refine qz [(0,.imm (ms.map Md.v)),(8,.own 1 0 (wrK d.tab k ((ar (aj d.tab) [] (wr1 low sto (fun e=>chk e==0) d).1),(wr1 low sto (fun e=>chk e==0) d).2)).1.length),(9,.ptr 2 0),(10,.bool ((wrK d.tab k ((ar (aj d.tab) [] (wr1 low sto (fun e=>chk e==0) d).1),(wr1 low sto (fun e=>chk e==0) d).2)).2)),(16,nI k)] ?_ ?_
 apply qo
 apply qr 1
 refine qy (aI (a:=((k:Nat):Int)) (b:=1) kq oq oq) ?_ ?_ ?_
 apply qr 1
 apply qe
 refine ab ⟨k+1,?_,?_,⟨⟨kq,(Eq.trans (b:=.own 1 0 (wrK d.tab k ((ar (aj d.tab) [] (wr1 low sto (fun e=>chk e==0) d).1),(wr1 low sto (fun e=>chk e==0) d).2)).1.length) kq Cv),kq,(Eq.trans (b:=.bool ((wrK d.tab k ((ar (aj d.tab) [] (wr1 low sto (fun e=>chk e==0) d).1),(wr1 low sto (fun e=>chk e==0) d).2)).2)) kq (by rw [kn (b:=true) (c:=false) (fm aq) (oR aq)] <;> simp)),kq,trivial⟩,by simp [aG,aa.bel],by simp,(Eq.trans (b:=[.box (Dc.cs d),.arr 1 ((wrK d.tab k ((ar (aj d.tab) [] (wr1 low sto (fun e=>chk e==0) d).1),(wr1 low sto (fun e=>chk e==0) d).2)).1.map Ls.v) 0,.box (Tb.cs d.tab)]) kq Cv),by simp [ai.belO,av,aa.bel,Ty.v,Ex.v,Ct.v,Co.v,Rf.v,Sm.v,Tb.v_cs,Sc.v,Md.v,Pb.v,Ls.v,-List.map_take,-List.map_drop,-List.map_append]⟩⟩
 · omega
 · omega
 iterate 39 kernel_rfl
 apply qf (decide_eq_false hb12)
 refine a6 2 kq kq ?_
 apply af
 apply af
 apply aE
 apply ab
 refine qz [(0,.imm (ms.map Md.v)),(8,.own 1 0 (wrK d.tab k ((ar (aj d.tab) [] (wr1 low sto (fun e=>chk e==0) d).1),(wr1 low sto (fun e=>chk e==0) d).2)).1.length),(9,.ptr 2 0),(10,.bool ((wrK d.tab k ((ar (aj d.tab) [] (wr1 low sto (fun e=>chk e==0) d).1),(wr1 low sto (fun e=>chk e==0) d).2)).2))] ?_ ?_
 apply az
 refine qU 1 [(0,.imm (ms.map Md.v)),(8,.own 1 0 (wrK d.tab k ((ar (aj d.tab) [] (wr1 low sto (fun e=>chk e==0) d).1),(wr1 low sto (fun e=>chk e==0) d).2)).1.length),(9,.ptr 2 0),(10,.bool ((wrK d.tab k ((ar (aj d.tab) [] (wr1 low sto (fun e=>chk e==0) d).1),(wr1 low sto (fun e=>chk e==0) d).2)).2)),(17,.int .i64 0)] ?_ ?_
 apply qB 4
 refine bn (σ:=Nat) (fun r=>[(0,.imm (ms.map Md.v)),(8,.own 1 0 (wrR (fun n=>ay n ms) d.tab r (wr2 low sto (fun e=>chk e==0) d)).1.length),(9,.ptr 2 0),(10,.bool ((wrR (fun n=>ay n ms) d.tab r (wr2 low sto (fun e=>chk e==0) d)).2)),(17,.int .i64 ((r:Nat):Int))]) (fun r=>[.box (Dc.cs d),.arr 1 ((wrR (fun n=>ay n ms) d.tab r (wr2 low sto (fun e=>chk e==0) d)).1.map Ls.v) 0,.box (Tb.cs d.tab)]) (fun r=>r≤d.tab.refs.length) (fun r=>d.tab.refs.length - r) 0 kq (by exact Nat.zero_le _) ⟨⟨kq,(Eq.trans (b:=.own 1 0 (wrK d.tab k ((ar (aj d.tab) [] (wr1 low sto (fun e=>chk e==0) d).1),(wr1 low sto (fun e=>chk e==0) d).2)).1.length) kq zH),kq,(Eq.trans (b:=.bool ((wrK d.tab k ((ar (aj d.tab) [] (wr1 low sto (fun e=>chk e==0) d).1),(wr1 low sto (fun e=>chk e==0) d).2)).2)) kq zH),kq,trivial⟩,by simp [aG,aa.bel],by simp,(Eq.trans (b:=[.box (Dc.cs d),.arr 1 ((wrK d.tab k ((ar (aj d.tab) [] (wr1 low sto (fun e=>chk e==0) d).1),(wr1 low sto (fun e=>chk e==0) d).2)).1.map Ls.v) 0,.box (Tb.cs d.tab)]) kq zH),by simp [ai.belO,av,aa.bel,Ty.v,Ex.v,Ct.v,Co.v,Rf.v,Sm.v,Tb.v_cs,Sc.v,Md.v,Pb.v,Ls.v,-List.map_take,-List.map_drop,-List.map_append]⟩ ?_
 rintro r hr
 have hrl:=oA (fst:=(fun n=>ay n ms)) (t:=d.tab) (wr2 low sto (fun e=>chk e==0) d) r
 have hr0:=hW2
 apply az
 apply qV 3
 refine qy (aw (l:=d.tab.refs) (enc:=Rf.v) kq gt) ?_ ?_ ?_
 refine qR 1 [(0,.imm (ms.map Md.v)),(8,.own 1 0 (wrR (fun n=>ay n ms) d.tab r (wr2 low sto (fun e=>chk e==0) d)).1.length),(9,.ptr 2 0),(10,.bool ((wrR (fun n=>ay n ms) d.tab r (wr2 low sto (fun e=>chk e==0) d)).2)),(17,nI r),(137,.bool (decide (((r:Nat):Int)<((d.tab.refs.length:Nat):Int))))] [.box (Dc.cs d),.arr 1 ((wrR (fun n=>ay n ms) d.tab r (wr2 low sto (fun e=>chk e==0) d)).1.map Ls.v) 0,.box (Tb.cs d.tab)] ?_ ?_
 by_cases hb16:((r:Nat):Int)<((d.tab.refs.length:Nat):Int)
 apply qt (decide_eq_true hb16)
 apply qK
 refine qz [(0,.imm (ms.map Md.v)),(8,.own 1 0 (wrR (fun n=>ay n ms) d.tab r (wr2 low sto (fun e=>chk e==0) d)).1.length),(9,.ptr 2 0),(10,.bool ((wrR (fun n=>ay n ms) d.tab r (wr2 low sto (fun e=>chk e==0) d)).2)),(17,nI r)] ?_ ?_
 apply az
 apply qB 5
 apply qV 3
 refine qy ((aA (k:=.i64) (l:=d.tab.refs) (enc:=Rf.v) (i:=((r:Nat):Int)) Rf.zero kq gt mD (fun _=>rfl) oq oq).trans (congrArg (fun cs=>some (aa.pimm cs 0,_)) (en (d.tab.refs.getD r Rf.zero)))) ?_ ?_ ?_
 refine qR 3 [(0,.imm (ms.map Md.v)),(8,.own 1 0 (wrR (fun n=>ay n ms) d.tab r (wr2 low sto (fun e=>chk e==0) d)).1.length),(9,.ptr 2 0),(10,.bool ((wrR (fun n=>ay n ms) d.tab r (wr2 low sto (fun e=>chk e==0) d)).2)),(17,nI r),(18,.ptr 3 0)] [.box (Dc.cs d),.arr 1 ((wrR (fun n=>ay n ms) d.tab r (wr2 low sto (fun e=>chk e==0) d)).1.map Ls.v) 0,.box (Tb.cs d.tab),.box [.str (d.tab.refs.getD r Rf.zero).col,.str (d.tab.refs.getD r Rf.zero).tab]] ?_ ?_
 apply qV 4
 refine bj (args:=[.imm (d.tab.cols.map Co.v),.str (d.tab.refs.getD r Rf.zero).col]) kq kq kq kq (fe d.tab.cols ((d.tab.refs.getD r Rf.zero).col) oq) gT gT eY ?_
 refine qR 1 [(0,.imm (ms.map Md.v)),(8,.own 1 0 (wrR (fun n=>ay n ms) d.tab r (wr2 low sto (fun e=>chk e==0) d)).1.length),(9,.ptr 2 0),(10,.bool ((wrR (fun n=>ay n ms) d.tab r (wr2 low sto (fun e=>chk e==0) d)).2)),(17,nI r),(18,.ptr 3 0),(19,.int .i64 (aD d.tab.cols ((d.tab.refs.getD r Rf.zero).col)))] [.box (Dc.cs d),.arr 1 ((wrR (fun n=>ay n ms) d.tab r (wr2 low sto (fun e=>chk e==0) d)).1.map Ls.v) 0,.box (Tb.cs d.tab),.box [.str (d.tab.refs.getD r Rf.zero).col,.str (d.tab.refs.getD r Rf.zero).tab]] ?_ ?_
 refine qU 1 [(0,.imm (ms.map Md.v)),(8,.own 1 0 (wrR (fun n=>ay n ms) d.tab r (wr2 low sto (fun e=>chk e==0) d)).1.length),(9,.ptr 2 0),(10,.bool ((wrR (fun n=>ay n ms) d.tab r (wr2 low sto (fun e=>chk e==0) d)).2)),(17,nI r),(18,.ptr 3 0),(19,.int .i64 (aD d.tab.cols ((d.tab.refs.getD r Rf.zero).col))),(20,.bool false)] ?_ ?_
 apply az
 refine qU 1 [(0,.imm (ms.map Md.v)),(8,.own 1 0 (wrR (fun n=>ay n ms) d.tab r (wr2 low sto (fun e=>chk e==0) d)).1.length),(9,.ptr 2 0),(10,.bool ((wrR (fun n=>ay n ms) d.tab r (wr2 low sto (fun e=>chk e==0) d)).2)),(17,nI r),(18,.ptr 3 0),(19,.int .i64 (aD d.tab.cols ((d.tab.refs.getD r Rf.zero).col))),(20,.bool false),(21,.int .i64 0)] ?_ ?_
 apply qB 6
 refine bn (σ:=Nat) (fun j=>[(0,.imm (ms.map Md.v)),(8,.own 1 0 (wrR (fun n=>ay n ms) d.tab r (wr2 low sto (fun e=>chk e==0) d)).1.length),(9,.ptr 2 0),(10,.bool ((wrR (fun n=>ay n ms) d.tab r (wr2 low sto (fun e=>chk e==0) d)).2)),(17,.int .i64 ((r:Nat):Int)),(18,.ptr 3 0),(19,.int .i64 (aD d.tab.cols ((d.tab.refs.getD r Rf.zero).col))),(20,.bool (((d.tab.refs.take j).any (fun x=>x.col==(d.tab.refs.getD r Rf.zero).col)))),(21,.int .i64 ((j:Nat):Int))]) (fun j=>[.box (Dc.cs d),.arr 1 ((wrR (fun n=>ay n ms) d.tab r (wr2 low sto (fun e=>chk e==0) d)).1.map Ls.v) 0,.box (Tb.cs d.tab),.box [.str (d.tab.refs.getD r Rf.zero).col,.str (d.tab.refs.getD r Rf.zero).tab]]) (fun j=>j≤r) (fun j=>r - j) 0 kq (by exact Nat.zero_le _) ⟨⟨kq,kq,kq,kq,kq,kq,kq,(Eq.trans (b:=.bool false) kq kq),kq,trivial⟩,by simp [aG,aa.bel],by simp,kq,by simp [ai.belO,av,aa.bel,Ty.v,Ex.v,Ct.v,Co.v,Rf.v,Sm.v,Tb.v_cs,Sc.v,Md.v,Pb.v,Ls.v,-List.map_take,-List.map_drop,-List.map_append]⟩ ?_
 rintro j hj
 apply az
 refine qW 3 [(0,.imm (ms.map Md.v)),(8,.own 1 0 (wrR (fun n=>ay n ms) d.tab r (wr2 low sto (fun e=>chk e==0) d)).1.length),(9,.ptr 2 0),(10,.bool ((wrR (fun n=>ay n ms) d.tab r (wr2 low sto (fun e=>chk e==0) d)).2)),(17,nI r),(18,.ptr 3 0),(19,.int .i64 (aD d.tab.cols ((d.tab.refs.getD r Rf.zero).col))),(20,.bool (((d.tab.refs.take j).any (fun x=>x.col==(d.tab.refs.getD r Rf.zero).col)))),(21,nI j),(152,.bool (decide (((j:Nat):Int)<((r:Nat):Int))))] [.box (Dc.cs d),.arr 1 ((wrR (fun n=>ay n ms) d.tab r (wr2 low sto (fun e=>chk e==0) d)).1.map Ls.v) 0,.box (Tb.cs d.tab),.box [.str (d.tab.refs.getD r Rf.zero).col,.str (d.tab.refs.getD r Rf.zero).tab]] ?_ ?_
 by_cases hb17:((j:Nat):Int)<((r:Nat):Int)
 apply qt (decide_eq_true hb17)
 apply qK
 refine qz [(0,.imm (ms.map Md.v)),(8,.own 1 0 (wrR (fun n=>ay n ms) d.tab r (wr2 low sto (fun e=>chk e==0) d)).1.length),(9,.ptr 2 0),(10,.bool ((wrR (fun n=>ay n ms) d.tab r (wr2 low sto (fun e=>chk e==0) d)).2)),(17,nI r),(18,.ptr 3 0),(19,.int .i64 (aD d.tab.cols ((d.tab.refs.getD r Rf.zero).col))),(20,.bool (((d.tab.refs.take j).any (fun x=>x.col==(d.tab.refs.getD r Rf.zero).col)))),(21,nI j)] ?_ ?_
 apply az
 apply qB 7
 refine b6 cxM kq (dL ap) (aU ?_)
 apply qu 2
 by_cases hb18:(((d.tab.refs.take j).any (fun x=>x.col==(d.tab.refs.getD r Rf.zero).col)))=true
 refine bQ 20 (.bool (((d.tab.refs.take j).any (fun x=>x.col==(d.tab.refs.getD r Rf.zero).col)))) (.bool true) (bO (dL ap)) kq (congrArg aa.bool (hb18)) ?_
 refine bQ 155 (.bool (((d.tab.refs.take j).any (fun x=>x.col==(d.tab.refs.getD r Rf.zero).col)))) (.bool true) (bO (dL ap)) kq (congrArg aa.bool (hb18)) ?_
 refine bQ 156 (.bool (((d.tab.refs.take j).any (fun x=>x.col==(d.tab.refs.getD r Rf.zero).col)))) (.bool true) (bO (dL ap)) kq (congrArg aa.bool (hb18)) ?_
 apply qu 11
 refine bG kq ⟨kq,?_⟩
 apply ah
 apply ab
 refine qZ [(0,.imm (ms.map Md.v)),(8,.own 1 0 (wrR (fun n=>ay n ms) d.tab r (wr2 low sto (fun e=>chk e==0) d)).1.length),(9,.ptr 2 0),(10,.bool ((wrR (fun n=>ay n ms) d.tab r (wr2 low sto (fun e=>chk e==0) d)).2)),(17,nI r),(18,.ptr 3 0),(19,.int .i64 (aD d.tab.cols ((d.tab.refs.getD r Rf.zero).col))),(20,.bool true),(21,nI j),(157,.tup []),(158,.tup []),(159,.tup []),(160,.tup []),(161,.tup []),(162,.tup []),(163,.tup []),(164,.tup []),(165,.tup [])] [.box (Dc.cs d),.arr 1 ((wrR (fun n=>ay n ms) d.tab r (wr2 low sto (fun e=>chk e==0) d)).1.map Ls.v) 0,.box (Tb.cs d.tab),.box [.str (d.tab.refs.getD r Rf.zero).col,.str (d.tab.refs.getD r Rf.zero).tab]] ?_ ?_
 apply qo
 apply qr 1
 refine qy (aI (a:=((j:Nat):Int)) (b:=1) kq oq oq) ?_ ?_ ?_
 apply qr 1
 apply qe
 refine ab ⟨j+1,?_,?_,⟨⟨kq,kq,kq,kq,kq,kq,kq,(Eq.trans (b:=.bool true) kq BZ),kq,trivial⟩,by simp [aG,aa.bel],by simp,kq,by simp [ai.belO,av,aa.bel,Ty.v,Ex.v,Ct.v,Co.v,Rf.v,Sm.v,Tb.v_cs,Sc.v,Md.v,Pb.v,Ls.v,-List.map_take,-List.map_drop,-List.map_append]⟩⟩
 · omega
 · omega
 iterate 8 kernel_rfl
 refine bQ 20 (.bool (((d.tab.refs.take j).any (fun x=>x.col==(d.tab.refs.getD r Rf.zero).col)))) (.bool false) (bO (dL ap)) kq (congrArg aa.bool (Bool.eq_false_iff.2 hb18)) ?_
 refine bQ 155 (.bool (((d.tab.refs.take j).any (fun x=>x.col==(d.tab.refs.getD r Rf.zero).col)))) (.bool false) (bO (dL ap)) kq (congrArg aa.bool (Bool.eq_false_iff.2 hb18)) ?_
 refine bQ 156 (.bool (((d.tab.refs.take j).any (fun x=>x.col==(d.tab.refs.getD r Rf.zero).col)))) (.bool false) (bO (dL ap)) kq (congrArg aa.bool (Bool.eq_false_iff.2 hb18)) ?_
 apply qu 3
 refine qd ((aA (k:=.i64) (l:=d.tab.refs) (enc:=Rf.v) (i:=((j:Nat):Int)) Rf.zero kq gt mD (fun _=>rfl) oq oq).trans (congrArg (fun cs=>some (aa.pimm cs 0,_)) (en (d.tab.refs.getD j Rf.zero)))) ?_ ?_ ?_ ?_
 apply qu 7
 refine bG kq ⟨kq,?_⟩
 apply ah
 apply ab
 refine qZ [(0,.imm (ms.map Md.v)),(8,.own 1 0 (wrR (fun n=>ay n ms) d.tab r (wr2 low sto (fun e=>chk e==0) d)).1.length),(9,.ptr 2 0),(10,.bool ((wrR (fun n=>ay n ms) d.tab r (wr2 low sto (fun e=>chk e==0) d)).2)),(17,nI r),(18,.ptr 3 0),(19,.int .i64 (aD d.tab.cols ((d.tab.refs.getD r Rf.zero).col))),(20,.bool ((d.tab.refs.getD j Rf.zero).col==(d.tab.refs.getD r Rf.zero).col)),(21,nI j),(157,.ptr 2 3),(158,.imm (d.tab.refs.map Rf.v)),(159,nI j),(160,.pimm [.str (d.tab.refs.getD j Rf.zero).col,.str (d.tab.refs.getD j Rf.zero).tab] 0),(161,.pimm [.str (d.tab.refs.getD j Rf.zero).col,.str (d.tab.refs.getD j Rf.zero).tab] 0),(162,.str (d.tab.refs.getD j Rf.zero).col),(163,.ptr 3 0),(164,.str (d.tab.refs.getD r Rf.zero).col),(165,.bool ((d.tab.refs.getD j Rf.zero).col==(d.tab.refs.getD r Rf.zero).col))] [.box (Dc.cs d),.arr 1 ((wrR (fun n=>ay n ms) d.tab r (wr2 low sto (fun e=>chk e==0) d)).1.map Ls.v) 0,.box (Tb.cs d.tab),.box [.str (d.tab.refs.getD r Rf.zero).col,.str (d.tab.refs.getD r Rf.zero).tab]] ?_ ?_
 apply qo
 apply qr 1
 refine qy (aI (a:=((j:Nat):Int)) (b:=1) kq oq oq) ?_ ?_ ?_
 apply qr 1
 apply qe
 refine ab ⟨j+1,?_,?_,⟨⟨kq,kq,kq,kq,kq,kq,kq,(Eq.trans (b:=.bool ((d.tab.refs.getD j Rf.zero).col==(d.tab.refs.getD r Rf.zero).col)) kq BZ),kq,trivial⟩,by simp [aG,aa.bel],by simp,kq,by simp [ai.belO,av,aa.bel,Ty.v,Ex.v,Ct.v,Co.v,Rf.v,Sm.v,Tb.v_cs,Sc.v,Md.v,Pb.v,Ls.v,-List.map_take,-List.map_drop,-List.map_append]⟩⟩
 · omega
 · omega
 iterate 19 kernel_rfl
 apply qf (decide_eq_false hb17)
 refine a6 6 kq kq ?_
 apply af
 apply af
 apply aE
 apply ab
 refine qz [(0,.imm (ms.map Md.v)),(8,.own 1 0 (wrR (fun n=>ay n ms) d.tab r (wr2 low sto (fun e=>chk e==0) d)).1.length),(9,.ptr 2 0),(10,.bool ((wrR (fun n=>ay n ms) d.tab r (wr2 low sto (fun e=>chk e==0) d)).2)),(17,nI r),(18,.ptr 3 0),(19,.int .i64 (aD d.tab.cols ((d.tab.refs.getD r Rf.zero).col))),(20,.bool (((d.tab.refs.take j).any (fun x=>x.col==(d.tab.refs.getD r Rf.zero).col))))] ?_ ?_
 refine fY 20 (.bool (((d.tab.refs.take j).any (fun x=>x.col==(d.tab.refs.getD r Rf.zero).col)))) (.bool (((d.tab.refs.take r).any (fun x=>x.col==(d.tab.refs.getD r Rf.zero).col)))) kq (by rw [show j=r by omega]) ?_
 refine qz [(0,.imm (ms.map Md.v)),(8,.own 1 0 (wrR (fun n=>ay n ms) d.tab r (wr2 low sto (fun e=>chk e==0) d)).1.length),(9,.ptr 2 0),(10,.bool ((wrR (fun n=>ay n ms) d.tab r (wr2 low sto (fun e=>chk e==0) d)).2)),(17,nI r),(18,.ptr 3 0),(19,.int .i64 (aD d.tab.cols ((d.tab.refs.getD r Rf.zero).col))),(20,.bool (((d.tab.refs.take r).any (fun x=>x.col==(d.tab.refs.getD r Rf.zero).col))))] ?_ ?_
 apply qV 3
 refine bj (args:=[.imm (ms.map Md.v),.str (d.tab.refs.getD r Rf.zero).tab]) kq kq kq kq (oU ms ((d.tab.refs.getD r Rf.zero).tab) hn hm) gT gT eY ?_
 refine qR 6 [(0,.imm (ms.map Md.v)),(8,.own 1 0 (wrR (fun n=>ay n ms) d.tab r (wr2 low sto (fun e=>chk e==0) d)).1.length),(9,.ptr 2 0),(10,.bool ((wrR (fun n=>ay n ms) d.tab r (wr2 low sto (fun e=>chk e==0) d)).2)),(17,nI r),(18,.ptr 3 0),(19,.int .i64 (aD d.tab.cols ((d.tab.refs.getD r Rf.zero).col))),(20,.bool (((d.tab.refs.take r).any (fun x=>x.col==(d.tab.refs.getD r Rf.zero).col)))),(22,.ptr 4 0),(23,.bool ((ay ((d.tab.refs.getD r Rf.zero).tab) ms).isSome))] [.box (Dc.cs d),.arr 1 ((wrR (fun n=>ay n ms) d.tab r (wr2 low sto (fun e=>chk e==0) d)).1.map Ls.v) 0,.box (Tb.cs d.tab),.box [.str (d.tab.refs.getD r Rf.zero).col,.str (d.tab.refs.getD r Rf.zero).tab],.box (Tb.cs ((ay ((d.tab.refs.getD r Rf.zero).tab) ms).getD Tb.zero))] ?_ ?_
 apply az
 apply qV 3
 by_cases hb19:((ay ((d.tab.refs.getD r Rf.zero).tab) ms).isSome)=true
 refine qm [175,176] (x:=(!((ay ((d.tab.refs.getD r Rf.zero).tab) ms).isSome))) (congrArg not (hb19)) ?_ ?_
 refine qR 3 [(0,.imm (ms.map Md.v)),(8,.own 1 0 (wrR (fun n=>ay n ms) d.tab r (wr2 low sto (fun e=>chk e==0) d)).1.length),(9,.ptr 2 0),(10,.bool ((wrR (fun n=>ay n ms) d.tab r (wr2 low sto (fun e=>chk e==0) d)).2)),(17,nI r),(18,.ptr 3 0),(19,.int .i64 (aD d.tab.cols ((d.tab.refs.getD r Rf.zero).col))),(20,.bool (((d.tab.refs.take r).any (fun x=>x.col==(d.tab.refs.getD r Rf.zero).col)))),(22,.ptr 4 0),(23,.bool ((ay ((d.tab.refs.getD r Rf.zero).tab) ms).isSome)),(177,.int .i64 (aD d.tab.cols ((d.tab.refs.getD r Rf.zero).col))),(178,.bool (decide ((aD d.tab.cols ((d.tab.refs.getD r Rf.zero).col))<0))),(179,.bool (decide ((aD d.tab.cols ((d.tab.refs.getD r Rf.zero).col))<0)))] [.box (Dc.cs d),.arr 1 ((wrR (fun n=>ay n ms) d.tab r (wr2 low sto (fun e=>chk e==0) d)).1.map Ls.v) 0,.box (Tb.cs d.tab),.box [.str (d.tab.refs.getD r Rf.zero).col,.str (d.tab.refs.getD r Rf.zero).tab],.box (Tb.cs ((ay ((d.tab.refs.getD r Rf.zero).tab) ms).getD Tb.zero))] ?_ ?_
 by_cases hb20:(aD d.tab.cols ((d.tab.refs.getD r Rf.zero).col))<0
 apply qt (decide_eq_true hb20)
 apply qo
 refine qR 1 [(0,.imm (ms.map Md.v)),(8,.own 1 0 (wrR (fun n=>ay n ms) d.tab r (wr2 low sto (fun e=>chk e==0) d)).1.length),(9,.ptr 2 0),(10,.bool true),(17,nI r),(18,.ptr 3 0),(19,.int .i64 (aD d.tab.cols ((d.tab.refs.getD r Rf.zero).col))),(20,.bool (((d.tab.refs.take r).any (fun x=>x.col==(d.tab.refs.getD r Rf.zero).col)))),(22,.ptr 4 0),(23,.bool ((ay ((d.tab.refs.getD r Rf.zero).tab) ms).isSome)),(177,.int .i64 (aD d.tab.cols ((d.tab.refs.getD r Rf.zero).col))),(178,.bool (decide ((aD d.tab.cols ((d.tab.refs.getD r Rf.zero).col))<0)))] [.box (Dc.cs d),.arr 1 ((wrR (fun n=>ay n ms) d.tab r (wr2 low sto (fun e=>chk e==0) d)).1.map Ls.v) 0,.box (Tb.cs d.tab),.box [.str (d.tab.refs.getD r Rf.zero).col,.str (d.tab.refs.getD r Rf.zero).tab],.box (Tb.cs ((ay ((d.tab.refs.getD r Rf.zero).tab) ms).getD Tb.zero))] ?_ ?_
 apply az
 apply qV 2
 apply qm [23,180,181] (hb19)
 refine qR 3 [(0,.imm (ms.map Md.v)),(8,.own 1 0 (wrR (fun n=>ay n ms) d.tab r (wr2 low sto (fun e=>chk e==0) d)).1.length),(9,.ptr 2 0),(10,.bool true),(17,nI r),(18,.ptr 3 0),(19,.int .i64 (aD d.tab.cols ((d.tab.refs.getD r Rf.zero).col))),(20,.bool (((d.tab.refs.take r).any (fun x=>x.col==(d.tab.refs.getD r Rf.zero).col)))),(22,.ptr 4 0),(177,.int .i64 (aD d.tab.cols ((d.tab.refs.getD r Rf.zero).col))),(178,.bool (decide ((aD d.tab.cols ((d.tab.refs.getD r Rf.zero).col))<0))),(182,.int .i64 (aD d.tab.cols ((d.tab.refs.getD r Rf.zero).col))),(183,.bool (decide ((aD d.tab.cols ((d.tab.refs.getD r Rf.zero).col)) ≥ 0))),(184,.bool (decide ((aD d.tab.cols ((d.tab.refs.getD r Rf.zero).col)) ≥ 0)))] [.box (Dc.cs d),.arr 1 ((wrR (fun n=>ay n ms) d.tab r (wr2 low sto (fun e=>chk e==0) d)).1.map Ls.v) 0,.box (Tb.cs d.tab),.box [.str (d.tab.refs.getD r Rf.zero).col,.str (d.tab.refs.getD r Rf.zero).tab],.box (Tb.cs ((ay ((d.tab.refs.getD r Rf.zero).tab) ms).getD Tb.zero))] ?_ ?_
 by_cases hb22:(aD d.tab.cols ((d.tab.refs.getD r Rf.zero).col)) ≥ 0
 · exfalso;omega
 apply qf (decide_eq_false hb22)
 apply qK
 refine qz [(0,.imm (ms.map Md.v)),(8,.own 1 0 (wrR (fun n=>ay n ms) d.tab r (wr2 low sto (fun e=>chk e==0) d)).1.length),(9,.ptr 2 0),(10,.bool true),(17,nI r),(18,.ptr 3 0),(20,.bool (((d.tab.refs.take r).any (fun x=>x.col==(d.tab.refs.getD r Rf.zero).col)))),(177,.int .i64 (aD d.tab.cols ((d.tab.refs.getD r Rf.zero).col))),(178,.bool (decide ((aD d.tab.cols ((d.tab.refs.getD r Rf.zero).col))<0))),(182,.int .i64 (aD d.tab.cols ((d.tab.refs.getD r Rf.zero).col))),(183,.bool (decide ((aD d.tab.cols ((d.tab.refs.getD r Rf.zero).col)) ≥ 0)))] ?_ ?_
 refine qU 1 [(0,.imm (ms.map Md.v)),(8,.own 1 0 (wrR (fun n=>ay n ms) d.tab r (wr2 low sto (fun e=>chk e==0) d)).1.length),(9,.ptr 2 0),(10,.bool true),(17,nI r),(18,.ptr 3 0),(177,.int .i64 (aD d.tab.cols ((d.tab.refs.getD r Rf.zero).col))),(178,.bool (decide ((aD d.tab.cols ((d.tab.refs.getD r Rf.zero).col))<0))),(182,.int .i64 (aD d.tab.cols ((d.tab.refs.getD r Rf.zero).col))),(183,.bool (decide ((aD d.tab.cols ((d.tab.refs.getD r Rf.zero).col)) ≥ 0))),(198,.bool (((d.tab.refs.take r).any (fun x=>x.col==(d.tab.refs.getD r Rf.zero).col))))] ?_ ?_
 by_cases hb23:(((d.tab.refs.take r).any (fun x=>x.col==(d.tab.refs.getD r Rf.zero).col)))=true
 apply qt (hb23)
 apply qo
 apply qr 7
 refine qY (bL (o:=1) (len:=((wrR (fun n=>ay n ms) d.tab r (wr2 low sto (fun e=>chk e==0) d)).1.length)) (l:=(wrR (fun n=>ay n ms) d.tab r (wr2 low sto (fun e=>chk e==0) d)).1) (xs:=[.full [.str (d.tab.refs.getD r Rf.zero).col,.str (d.tab.refs.getD r Rf.zero).tab]]) (enc:=Ls.v) (sz:=1) (fr:=0) (x:=(.full [.full [.str (d.tab.refs.getD r Rf.zero).col,.str (d.tab.refs.getD r Rf.zero).tab]])) kq eb b5 eb rfl kq rfl rfl kq ⟨by decide,by kernel_rfl⟩ kq ep ep) ?_ ?_ ?_
 apply qr 1
 apply qe
 apply ah
 apply ab
 refine qZ [(0,.imm (ms.map Md.v)),(8,.own 1 0 ((wrR (fun n=>ay n ms) d.tab r (wr2 low sto (fun e=>chk e==0) d)).1.length+1)),(9,.ptr 2 0),(10,.bool true),(17,nI r),(177,.int .i64 (aD d.tab.cols ((d.tab.refs.getD r Rf.zero).col))),(178,.bool (decide ((aD d.tab.cols ((d.tab.refs.getD r Rf.zero).col))<0))),(182,.int .i64 (aD d.tab.cols ((d.tab.refs.getD r Rf.zero).col))),(183,.bool (decide ((aD d.tab.cols ((d.tab.refs.getD r Rf.zero).col)) ≥ 0)))] [.box (Dc.cs d),.arr 1 ((wrR (fun n=>ay n ms) d.tab r (wr2 low sto (fun e=>chk e==0) d)).1.map Ls.v++[.full [.str (d.tab.refs.getD r Rf.zero).col,.str (d.tab.refs.getD r Rf.zero).tab]]) 0,.box (Tb.cs d.tab),.box [.str (d.tab.refs.getD r Rf.zero).col,.str (d.tab.refs.getD r Rf.zero).tab],.box (Tb.cs ((ay ((d.tab.refs.getD r Rf.zero).tab) ms).getD Tb.zero))] ?_ ?_
 refine ed 1 (sz:=1) (fr:=0) (es:=((wrR (fun n=>ay n ms) d.tab r (wr2 low sto (fun e=>chk e==0) d)).1.map Ls.v++[.full [.str (d.tab.refs.getD r Rf.zero).col,.str (d.tab.refs.getD r Rf.zero).tab]])) (((wrR (fun n=>ay n ms) d.tab r (wr2 low sto (fun e=>chk e==0) d)).1++[[(d.tab.refs.getD r Rf.zero).col,(d.tab.refs.getD r Rf.zero).tab]]).map Ls.v) kq eY kV ?_
 refine fY 8 (.own 1 0 ((wrR (fun n=>ay n ms) d.tab r (wr2 low sto (fun e=>chk e==0) d)).1.length+1)) (.own 1 0 ((wrR (fun n=>ay n ms) d.tab r (wr2 low sto (fun e=>chk e==0) d)).1++[[(d.tab.refs.getD r Rf.zero).col,(d.tab.refs.getD r Rf.zero).tab]]).length) kq zq ?_
 refine qZ [(0,.imm (ms.map Md.v)),(8,.own 1 0 ((wrR (fun n=>ay n ms) d.tab r (wr2 low sto (fun e=>chk e==0) d)).1++[[(d.tab.refs.getD r Rf.zero).col,(d.tab.refs.getD r Rf.zero).tab]]).length),(9,.ptr 2 0),(10,.bool true),(17,nI r),(177,.int .i64 (aD d.tab.cols ((d.tab.refs.getD r Rf.zero).col))),(178,.bool (decide ((aD d.tab.cols ((d.tab.refs.getD r Rf.zero).col))<0))),(182,.int .i64 (aD d.tab.cols ((d.tab.refs.getD r Rf.zero).col))),(183,.bool (decide ((aD d.tab.cols ((d.tab.refs.getD r Rf.zero).col)) ≥ 0)))] [.box (Dc.cs d),.arr 1 (((wrR (fun n=>ay n ms) d.tab r (wr2 low sto (fun e=>chk e==0) d)).1++[[(d.tab.refs.getD r Rf.zero).col,(d.tab.refs.getD r Rf.zero).tab]]).map Ls.v) 0,.box (Tb.cs d.tab),.box [.str (d.tab.refs.getD r Rf.zero).col,.str (d.tab.refs.getD r Rf.zero).tab],.box (Tb.cs ((ay ((d.tab.refs.getD r Rf.zero).tab) ms).getD Tb.zero))] ?_ ?_
 apply qo
 apply qr 1
 refine qy (aI (a:=((r:Nat):Int)) (b:=1) kq oq oq) ?_ ?_ ?_
 apply qr 1
 apply qe
 refine ab ⟨r+1,?_,?_,⟨⟨kq,(Eq.trans (b:=.own 1 0 ((wrR (fun n=>ay n ms) d.tab r (wr2 low sto (fun e=>chk e==0) d)).1++[[(d.tab.refs.getD r Rf.zero).col,(d.tab.refs.getD r Rf.zero).tab]]).length) kq AQ),kq,(Eq.trans (b:=.bool true) kq (by rw [fg (b:=true) (c:=true) (fX aq) (uc aq)] <;> simp)),kq,trivial⟩,by simp [aG,aa.bel],by simp,(Eq.trans (b:=[.box (Dc.cs d),.arr 1 (((wrR (fun n=>ay n ms) d.tab r (wr2 low sto (fun e=>chk e==0) d)).1++[[(d.tab.refs.getD r Rf.zero).col,(d.tab.refs.getD r Rf.zero).tab]]).map Ls.v) 0,.box (Tb.cs d.tab)]) kq AQ),by simp [ai.belO,av,aa.bel,Ty.v,Ex.v,Ct.v,Co.v,Rf.v,Sm.v,Tb.v_cs,Sc.v,Md.v,Pb.v,Ls.v,-List.map_take,-List.map_drop,-List.map_append]⟩⟩
 · omega
 · omega
 iterate 15 kernel_rfl
 apply qf (Bool.eq_false_iff.2 hb23)
 apply qk
 apply ah
 apply ab
 refine qz [(0,.imm (ms.map Md.v)),(8,.own 1 0 (wrR (fun n=>ay n ms) d.tab r (wr2 low sto (fun e=>chk e==0) d)).1.length),(9,.ptr 2 0),(10,.bool true),(17,nI r),(177,.int .i64 (aD d.tab.cols ((d.tab.refs.getD r Rf.zero).col))),(178,.bool (decide ((aD d.tab.cols ((d.tab.refs.getD r Rf.zero).col))<0))),(182,.int .i64 (aD d.tab.cols ((d.tab.refs.getD r Rf.zero).col))),(183,.bool (decide ((aD d.tab.cols ((d.tab.refs.getD r Rf.zero).col)) ≥ 0)))] ?_ ?_
 apply qo
 apply qr 1
 refine qy (aI (a:=((r:Nat):Int)) (b:=1) kq oq oq) ?_ ?_ ?_
 apply qr 1
 apply qe
 refine ab ⟨r+1,?_,?_,⟨⟨kq,(Eq.trans (b:=.own 1 0 (wrR (fun n=>ay n ms) d.tab r (wr2 low sto (fun e=>chk e==0) d)).1.length) kq AO),kq,(Eq.trans (b:=.bool true) kq (by rw [fg (b:=false) (c:=true) (lk (Bool.eq_false_iff.2 aq) (uc aq)) (uc aq)] <;> simp)),kq,trivial⟩,by simp [aG,aa.bel],by simp,(Eq.trans (b:=[.box (Dc.cs d),.arr 1 ((wrR (fun n=>ay n ms) d.tab r (wr2 low sto (fun e=>chk e==0) d)).1.map Ls.v) 0,.box (Tb.cs d.tab)]) kq AO),by simp [ai.belO,av,aa.bel,Ty.v,Ex.v,Ct.v,Co.v,Rf.v,Sm.v,Tb.v_cs,Sc.v,Md.v,Pb.v,Ls.v,-List.map_take,-List.map_drop,-List.map_append]⟩⟩
 · omega
 · omega
 iterate 20 kernel_rfl
 apply qf (decide_eq_false hb20)
 apply qK
 refine qz [(0,.imm (ms.map Md.v)),(8,.own 1 0 (wrR (fun n=>ay n ms) d.tab r (wr2 low sto (fun e=>chk e==0) d)).1.length),(9,.ptr 2 0),(10,.bool ((wrR (fun n=>ay n ms) d.tab r (wr2 low sto (fun e=>chk e==0) d)).2)),(17,nI r),(18,.ptr 3 0),(19,.int .i64 (aD d.tab.cols ((d.tab.refs.getD r Rf.zero).col))),(20,.bool (((d.tab.refs.take r).any (fun x=>x.col==(d.tab.refs.getD r Rf.zero).col)))),(22,.ptr 4 0),(23,.bool ((ay ((d.tab.refs.getD r Rf.zero).tab) ms).isSome)),(177,.int .i64 (aD d.tab.cols ((d.tab.refs.getD r Rf.zero).col))),(178,.bool (decide ((aD d.tab.cols ((d.tab.refs.getD r Rf.zero).col))<0)))] ?_ ?_
 apply az
 apply qV 2
 apply qm [23,180,181] (hb19)
 refine qR 3 [(0,.imm (ms.map Md.v)),(8,.own 1 0 (wrR (fun n=>ay n ms) d.tab r (wr2 low sto (fun e=>chk e==0) d)).1.length),(9,.ptr 2 0),(10,.bool ((wrR (fun n=>ay n ms) d.tab r (wr2 low sto (fun e=>chk e==0) d)).2)),(17,nI r),(18,.ptr 3 0),(19,.int .i64 (aD d.tab.cols ((d.tab.refs.getD r Rf.zero).col))),(20,.bool (((d.tab.refs.take r).any (fun x=>x.col==(d.tab.refs.getD r Rf.zero).col)))),(22,.ptr 4 0),(177,.int .i64 (aD d.tab.cols ((d.tab.refs.getD r Rf.zero).col))),(178,.bool (decide ((aD d.tab.cols ((d.tab.refs.getD r Rf.zero).col))<0))),(182,.int .i64 (aD d.tab.cols ((d.tab.refs.getD r Rf.zero).col))),(183,.bool (decide ((aD d.tab.cols ((d.tab.refs.getD r Rf.zero).col)) ≥ 0))),(184,.bool (decide ((aD d.tab.cols ((d.tab.refs.getD r Rf.zero).col)) ≥ 0)))] [.box (Dc.cs d),.arr 1 ((wrR (fun n=>ay n ms) d.tab r (wr2 low sto (fun e=>chk e==0) d)).1.map Ls.v) 0,.box (Tb.cs d.tab),.box [.str (d.tab.refs.getD r Rf.zero).col,.str (d.tab.refs.getD r Rf.zero).tab],.box (Tb.cs ((ay ((d.tab.refs.getD r Rf.zero).tab) ms).getD Tb.zero))] ?_ ?_
 by_cases hb25:(aD d.tab.cols ((d.tab.refs.getD r Rf.zero).col)) ≥ 0
 apply qt (decide_eq_true hb25)
 apply az
 refine b6 cxM kq ap (aU ?_)
 apply qu 4
 refine qd ((aA (k:=.i64) (l:=d.tab.cols) (enc:=Co.v) (i:=(aD d.tab.cols ((d.tab.refs.getD r Rf.zero).col))) Co.zero kq fv kQ (fun _=>rfl) oq (wc aq)).trans (congrArg (fun cs=>some (aa.pimm cs 0,_)) (dm (d.tab.cols.getD (((aD d.tab.cols ((d.tab.refs.getD r Rf.zero).col))).toNat) Co.zero)))) ?_ ?_ ?_ ?_
 apply qu 2
 refine cc (args:=[.agg (Tb.cs ((ay ((d.tab.refs.getD r Rf.zero).tab) ms).getD Tb.zero)),.agg [.int .i64 ((d.tab.cols.getD (((aD d.tab.cols ((d.tab.refs.getD r Rf.zero).col))).toNat) Co.zero).type.kind),.str (d.tab.cols.getD (((aD d.tab.cols ((d.tab.refs.getD r Rf.zero).col))).toNat) Co.zero).type.name,.int .i64 ((d.tab.cols.getD (((aD d.tab.cols ((d.tab.refs.getD r Rf.zero).col))).toNat) Co.zero).type.n),.imm ((d.tab.cols.getD (((aD d.tab.cols ((d.tab.refs.getD r Rf.zero).col))).toNat) Co.zero).type.names.map aa.str),.imm ((d.tab.cols.getD (((aD d.tab.cols ((d.tab.refs.getD r Rf.zero).col))).toNat) Co.zero).type.kids.map Ty.enc)]]) kq kq kq kq kq (nU ((ay ((d.tab.refs.getD r Rf.zero).tab) ms).getD Tb.zero) ((d.tab.cols.getD (((aD d.tab.cols ((d.tab.refs.getD r Rf.zero).col))).toNat) Co.zero).type) (Nat.lt_of_le_of_lt (sC hok _).c dq) (sC hok _).co) v6 gT eY ?_
 apply qu 1
 refine bG kq ⟨kq,?_⟩
 apply ab
 refine qZ [(0,.imm (ms.map Md.v)),(8,.own 1 0 (wrR (fun n=>ay n ms) d.tab r (wr2 low sto (fun e=>chk e==0) d)).1.length),(9,.ptr 2 0),(10,.bool ((wrR (fun n=>ay n ms) d.tab r (wr2 low sto (fun e=>chk e==0) d)).2)),(17,nI r),(18,.ptr 3 0),(20,.bool (((d.tab.refs.take r).any (fun x=>x.col==(d.tab.refs.getD r Rf.zero).col)))),(24,.bool (tgt ((ay ((d.tab.refs.getD r Rf.zero).tab) ms).getD Tb.zero) ((d.tab.cols.getD (((aD d.tab.cols ((d.tab.refs.getD r Rf.zero).col))).toNat) Co.zero).type))),(177,.int .i64 (aD d.tab.cols ((d.tab.refs.getD r Rf.zero).col))),(178,.bool (decide ((aD d.tab.cols ((d.tab.refs.getD r Rf.zero).col))<0))),(182,.int .i64 (aD d.tab.cols ((d.tab.refs.getD r Rf.zero).col))),(183,.bool (decide ((aD d.tab.cols ((d.tab.refs.getD r Rf.zero).col)) ≥ 0)))] [.box (Dc.cs d),.arr 1 ((wrR (fun n=>ay n ms) d.tab r (wr2 low sto (fun e=>chk e==0) d)).1.map Ls.v) 0,.box (Tb.cs d.tab),.box [.str (d.tab.refs.getD r Rf.zero).col,.str (d.tab.refs.getD r Rf.zero).tab],.box (Tb.cs ((ay ((d.tab.refs.getD r Rf.zero).tab) ms).getD Tb.zero))] ?_ ?_
 apply qo
 apply qr 2
 by_cases hb26:(((d.tab.refs.take r).any (fun x=>x.col==(d.tab.refs.getD r Rf.zero).col)))=true
 apply qm [20,193,194] (hb26)
 refine qR 4 [(0,.imm (ms.map Md.v)),(8,.own 1 0 (wrR (fun n=>ay n ms) d.tab r (wr2 low sto (fun e=>chk e==0) d)).1.length),(9,.ptr 2 0),(10,.bool ((wrR (fun n=>ay n ms) d.tab r (wr2 low sto (fun e=>chk e==0) d)).2)),(17,nI r),(18,.ptr 3 0),(20,.bool true),(177,.int .i64 (aD d.tab.cols ((d.tab.refs.getD r Rf.zero).col))),(178,.bool (decide ((aD d.tab.cols ((d.tab.refs.getD r Rf.zero).col))<0))),(182,.int .i64 (aD d.tab.cols ((d.tab.refs.getD r Rf.zero).col))),(183,.bool (decide ((aD d.tab.cols ((d.tab.refs.getD r Rf.zero).col)) ≥ 0))),(195,.tup []),(196,.tup [])] [.box (Dc.cs d),.arr 1 ((wrR (fun n=>ay n ms) d.tab r (wr2 low sto (fun e=>chk e==0) d)).1.map Ls.v) 0,.box (Tb.cs d.tab),.box [.str (d.tab.refs.getD r Rf.zero).col,.str (d.tab.refs.getD r Rf.zero).tab],.box (Tb.cs ((ay ((d.tab.refs.getD r Rf.zero).tab) ms).getD Tb.zero))] ?_ ?_
 refine qU 1 [(0,.imm (ms.map Md.v)),(8,.own 1 0 (wrR (fun n=>ay n ms) d.tab r (wr2 low sto (fun e=>chk e==0) d)).1.length),(9,.ptr 2 0),(10,.bool ((wrR (fun n=>ay n ms) d.tab r (wr2 low sto (fun e=>chk e==0) d)).2)),(17,nI r),(18,.ptr 3 0),(177,.int .i64 (aD d.tab.cols ((d.tab.refs.getD r Rf.zero).col))),(178,.bool (decide ((aD d.tab.cols ((d.tab.refs.getD r Rf.zero).col))<0))),(182,.int .i64 (aD d.tab.cols ((d.tab.refs.getD r Rf.zero).col))),(183,.bool (decide ((aD d.tab.cols ((d.tab.refs.getD r Rf.zero).col)) ≥ 0))),(195,.tup []),(196,.tup []),(198,.bool true)] ?_ ?_
 refine cU kq kq ?_
 apply qo
 apply qr 7
 refine qY (bL (o:=1) (len:=((wrR (fun n=>ay n ms) d.tab r (wr2 low sto (fun e=>chk e==0) d)).1.length)) (l:=(wrR (fun n=>ay n ms) d.tab r (wr2 low sto (fun e=>chk e==0) d)).1) (xs:=[.full [.str (d.tab.refs.getD r Rf.zero).col,.str (d.tab.refs.getD r Rf.zero).tab]]) (enc:=Ls.v) (sz:=1) (fr:=0) (x:=(.full [.full [.str (d.tab.refs.getD r Rf.zero).col,.str (d.tab.refs.getD r Rf.zero).tab]])) kq eb b5 eb rfl kq rfl rfl kq ⟨by decide,by kernel_rfl⟩ kq ep ep) ?_ ?_ ?_
 apply qr 1
 apply qe
 apply ah
 apply ab
 refine qZ [(0,.imm (ms.map Md.v)),(8,.own 1 0 ((wrR (fun n=>ay n ms) d.tab r (wr2 low sto (fun e=>chk e==0) d)).1.length+1)),(9,.ptr 2 0),(10,.bool ((wrR (fun n=>ay n ms) d.tab r (wr2 low sto (fun e=>chk e==0) d)).2)),(17,nI r),(177,.int .i64 (aD d.tab.cols ((d.tab.refs.getD r Rf.zero).col))),(178,.bool (decide ((aD d.tab.cols ((d.tab.refs.getD r Rf.zero).col))<0))),(182,.int .i64 (aD d.tab.cols ((d.tab.refs.getD r Rf.zero).col))),(183,.bool (decide ((aD d.tab.cols ((d.tab.refs.getD r Rf.zero).col)) ≥ 0))),(195,.tup []),(196,.tup [])] [.box (Dc.cs d),.arr 1 ((wrR (fun n=>ay n ms) d.tab r (wr2 low sto (fun e=>chk e==0) d)).1.map Ls.v++[.full [.str (d.tab.refs.getD r Rf.zero).col,.str (d.tab.refs.getD r Rf.zero).tab]]) 0,.box (Tb.cs d.tab),.box [.str (d.tab.refs.getD r Rf.zero).col,.str (d.tab.refs.getD r Rf.zero).tab],.box (Tb.cs ((ay ((d.tab.refs.getD r Rf.zero).tab) ms).getD Tb.zero))] ?_ ?_
 refine ed 1 (sz:=1) (fr:=0) (es:=((wrR (fun n=>ay n ms) d.tab r (wr2 low sto (fun e=>chk e==0) d)).1.map Ls.v++[.full [.str (d.tab.refs.getD r Rf.zero).col,.str (d.tab.refs.getD r Rf.zero).tab]])) (((wrR (fun n=>ay n ms) d.tab r (wr2 low sto (fun e=>chk e==0) d)).1++[[(d.tab.refs.getD r Rf.zero).col,(d.tab.refs.getD r Rf.zero).tab]]).map Ls.v) kq eY kV ?_
 refine fY 8 (.own 1 0 ((wrR (fun n=>ay n ms) d.tab r (wr2 low sto (fun e=>chk e==0) d)).1.length+1)) (.own 1 0 ((wrR (fun n=>ay n ms) d.tab r (wr2 low sto (fun e=>chk e==0) d)).1++[[(d.tab.refs.getD r Rf.zero).col,(d.tab.refs.getD r Rf.zero).tab]]).length) kq zq ?_
 refine qZ [(0,.imm (ms.map Md.v)),(8,.own 1 0 ((wrR (fun n=>ay n ms) d.tab r (wr2 low sto (fun e=>chk e==0) d)).1++[[(d.tab.refs.getD r Rf.zero).col,(d.tab.refs.getD r Rf.zero).tab]]).length),(9,.ptr 2 0),(10,.bool ((wrR (fun n=>ay n ms) d.tab r (wr2 low sto (fun e=>chk e==0) d)).2)),(17,nI r),(177,.int .i64 (aD d.tab.cols ((d.tab.refs.getD r Rf.zero).col))),(178,.bool (decide ((aD d.tab.cols ((d.tab.refs.getD r Rf.zero).col))<0))),(182,.int .i64 (aD d.tab.cols ((d.tab.refs.getD r Rf.zero).col))),(183,.bool (decide ((aD d.tab.cols ((d.tab.refs.getD r Rf.zero).col)) ≥ 0))),(195,.tup []),(196,.tup [])] [.box (Dc.cs d),.arr 1 (((wrR (fun n=>ay n ms) d.tab r (wr2 low sto (fun e=>chk e==0) d)).1++[[(d.tab.refs.getD r Rf.zero).col,(d.tab.refs.getD r Rf.zero).tab]]).map Ls.v) 0,.box (Tb.cs d.tab),.box [.str (d.tab.refs.getD r Rf.zero).col,.str (d.tab.refs.getD r Rf.zero).tab],.box (Tb.cs ((ay ((d.tab.refs.getD r Rf.zero).tab) ms).getD Tb.zero))] ?_ ?_
 apply qo
 apply qr 1
 refine qy (aI (a:=((r:Nat):Int)) (b:=1) kq oq oq) ?_ ?_ ?_
 apply qr 1
 apply qe
 refine ab ⟨r+1,?_,?_,⟨⟨kq,(Eq.trans (b:=.own 1 0 ((wrR (fun n=>ay n ms) d.tab r (wr2 low sto (fun e=>chk e==0) d)).1++[[(d.tab.refs.getD r Rf.zero).col,(d.tab.refs.getD r Rf.zero).tab]]).length) kq BS),kq,(Eq.trans (b:=.bool ((wrR (fun n=>ay n ms) d.tab r (wr2 low sto (fun e=>chk e==0) d)).2)) kq (by rw [fg (b:=true) (c:=false) (fX aq) (uh aq aq)] <;> simp)),kq,trivial⟩,by simp [aG,aa.bel],by simp,(Eq.trans (b:=[.box (Dc.cs d),.arr 1 (((wrR (fun n=>ay n ms) d.tab r (wr2 low sto (fun e=>chk e==0) d)).1++[[(d.tab.refs.getD r Rf.zero).col,(d.tab.refs.getD r Rf.zero).tab]]).map Ls.v) 0,.box (Tb.cs d.tab)]) kq BS),by simp [ai.belO,av,aa.bel,Ty.v,Ex.v,Ct.v,Co.v,Rf.v,Sm.v,Tb.v_cs,Sc.v,Md.v,Pb.v,Ls.v,-List.map_take,-List.map_drop,-List.map_append]⟩⟩
 · omega
 · omega
 iterate 17 kernel_rfl
 apply qm [20,193,194] (Bool.eq_false_iff.2 hb26)
 refine qR 4 [(0,.imm (ms.map Md.v)),(8,.own 1 0 (wrR (fun n=>ay n ms) d.tab r (wr2 low sto (fun e=>chk e==0) d)).1.length),(9,.ptr 2 0),(10,.bool ((wrR (fun n=>ay n ms) d.tab r (wr2 low sto (fun e=>chk e==0) d)).2)),(17,nI r),(18,.ptr 3 0),(20,.bool (!(tgt ((ay ((d.tab.refs.getD r Rf.zero).tab) ms).getD Tb.zero) ((d.tab.cols.getD (((aD d.tab.cols ((d.tab.refs.getD r Rf.zero).col))).toNat) Co.zero).type)))),(177,.int .i64 (aD d.tab.cols ((d.tab.refs.getD r Rf.zero).col))),(178,.bool (decide ((aD d.tab.cols ((d.tab.refs.getD r Rf.zero).col))<0))),(182,.int .i64 (aD d.tab.cols ((d.tab.refs.getD r Rf.zero).col))),(183,.bool (decide ((aD d.tab.cols ((d.tab.refs.getD r Rf.zero).col)) ≥ 0))),(195,.bool (tgt ((ay ((d.tab.refs.getD r Rf.zero).tab) ms).getD Tb.zero) ((d.tab.cols.getD (((aD d.tab.cols ((d.tab.refs.getD r Rf.zero).col))).toNat) Co.zero).type))),(196,.bool (!(tgt ((ay ((d.tab.refs.getD r Rf.zero).tab) ms).getD Tb.zero) ((d.tab.cols.getD (((aD d.tab.cols ((d.tab.refs.getD r Rf.zero).col))).toNat) Co.zero).type))))] [.box (Dc.cs d),.arr 1 ((wrR (fun n=>ay n ms) d.tab r (wr2 low sto (fun e=>chk e==0) d)).1.map Ls.v) 0,.box (Tb.cs d.tab),.box [.str (d.tab.refs.getD r Rf.zero).col,.str (d.tab.refs.getD r Rf.zero).tab],.box (Tb.cs ((ay ((d.tab.refs.getD r Rf.zero).tab) ms).getD Tb.zero))] ?_ ?_
 refine qU 1 [(0,.imm (ms.map Md.v)),(8,.own 1 0 (wrR (fun n=>ay n ms) d.tab r (wr2 low sto (fun e=>chk e==0) d)).1.length),(9,.ptr 2 0),(10,.bool ((wrR (fun n=>ay n ms) d.tab r (wr2 low sto (fun e=>chk e==0) d)).2)),(17,nI r),(18,.ptr 3 0),(177,.int .i64 (aD d.tab.cols ((d.tab.refs.getD r Rf.zero).col))),(178,.bool (decide ((aD d.tab.cols ((d.tab.refs.getD r Rf.zero).col))<0))),(182,.int .i64 (aD d.tab.cols ((d.tab.refs.getD r Rf.zero).col))),(183,.bool (decide ((aD d.tab.cols ((d.tab.refs.getD r Rf.zero).col)) ≥ 0))),(195,.bool (tgt ((ay ((d.tab.refs.getD r Rf.zero).tab) ms).getD Tb.zero) ((d.tab.cols.getD (((aD d.tab.cols ((d.tab.refs.getD r Rf.zero).col))).toNat) Co.zero).type))),(196,.bool (!(tgt ((ay ((d.tab.refs.getD r Rf.zero).tab) ms).getD Tb.zero) ((d.tab.cols.getD (((aD d.tab.cols ((d.tab.refs.getD r Rf.zero).col))).toNat) Co.zero).type)))),(198,.bool (!(tgt ((ay ((d.tab.refs.getD r Rf.zero).tab) ms).getD Tb.zero) ((d.tab.cols.getD (((aD d.tab.cols ((d.tab.refs.getD r Rf.zero).col))).toNat) Co.zero).type))))] ?_ ?_
 by_cases hb27:(tgt ((ay ((d.tab.refs.getD r Rf.zero).tab) ms).getD Tb.zero) ((d.tab.cols.getD (((aD d.tab.cols ((d.tab.refs.getD r Rf.zero).col))).toNat) Co.zero).type))=true
 refine qf (x:=(!(tgt ((ay ((d.tab.refs.getD r Rf.zero).tab) ms).getD Tb.zero) ((d.tab.cols.getD (((aD d.tab.cols ((d.tab.refs.getD r Rf.zero).col))).toNat) Co.zero).type)))) (congrArg not (hb27)) ?_ ?_
 apply qk
 apply ah
 apply ab
 refine qz [(0,.imm (ms.map Md.v)),(8,.own 1 0 (wrR (fun n=>ay n ms) d.tab r (wr2 low sto (fun e=>chk e==0) d)).1.length),(9,.ptr 2 0),(10,.bool ((wrR (fun n=>ay n ms) d.tab r (wr2 low sto (fun e=>chk e==0) d)).2)),(17,nI r),(177,.int .i64 (aD d.tab.cols ((d.tab.refs.getD r Rf.zero).col))),(178,.bool (decide ((aD d.tab.cols ((d.tab.refs.getD r Rf.zero).col))<0))),(182,.int .i64 (aD d.tab.cols ((d.tab.refs.getD r Rf.zero).col))),(183,.bool (decide ((aD d.tab.cols ((d.tab.refs.getD r Rf.zero).col)) ≥ 0))),(195,.bool (tgt ((ay ((d.tab.refs.getD r Rf.zero).tab) ms).getD Tb.zero) ((d.tab.cols.getD (((aD d.tab.cols ((d.tab.refs.getD r Rf.zero).col))).toNat) Co.zero).type))),(196,.bool (!(tgt ((ay ((d.tab.refs.getD r Rf.zero).tab) ms).getD Tb.zero) ((d.tab.cols.getD (((aD d.tab.cols ((d.tab.refs.getD r Rf.zero).col))).toNat) Co.zero).type))))] ?_ ?_
 apply qo
 apply qr 1
 refine qy (aI (a:=((r:Nat):Int)) (b:=1) kq oq oq) ?_ ?_ ?_
 apply qr 1
 apply qe
 refine ab ⟨r+1,?_,?_,⟨⟨kq,(Eq.trans (b:=.own 1 0 (wrR (fun n=>ay n ms) d.tab r (wr2 low sto (fun e=>chk e==0) d)).1.length) kq BW),kq,(Eq.trans (b:=.bool ((wrR (fun n=>ay n ms) d.tab r (wr2 low sto (fun e=>chk e==0) d)).2)) kq (by rw [fg (b:=false) (c:=false) (oh aq (by rw [← mq aq];assumption)) (uh aq aq)] <;> simp)),kq,trivial⟩,by simp [aG,aa.bel],by simp,(Eq.trans (b:=[.box (Dc.cs d),.arr 1 ((wrR (fun n=>ay n ms) d.tab r (wr2 low sto (fun e=>chk e==0) d)).1.map Ls.v) 0,.box (Tb.cs d.tab)]) kq BW),by simp [ai.belO,av,aa.bel,Ty.v,Ex.v,Ct.v,Co.v,Rf.v,Sm.v,Tb.v_cs,Sc.v,Md.v,Pb.v,Ls.v,-List.map_take,-List.map_drop,-List.map_append]⟩⟩
 · omega
 · omega
 iterate 9 kernel_rfl
 refine qt (x:=(!(tgt ((ay ((d.tab.refs.getD r Rf.zero).tab) ms).getD Tb.zero) ((d.tab.cols.getD (((aD d.tab.cols ((d.tab.refs.getD r Rf.zero).col))).toNat) Co.zero).type)))) (congrArg not (Bool.eq_false_iff.2 hb27)) ?_ ?_
 apply qo
 apply qr 7
 refine qY (bL (o:=1) (len:=((wrR (fun n=>ay n ms) d.tab r (wr2 low sto (fun e=>chk e==0) d)).1.length)) (l:=(wrR (fun n=>ay n ms) d.tab r (wr2 low sto (fun e=>chk e==0) d)).1) (xs:=[.full [.str (d.tab.refs.getD r Rf.zero).col,.str (d.tab.refs.getD r Rf.zero).tab]]) (enc:=Ls.v) (sz:=1) (fr:=0) (x:=(.full [.full [.str (d.tab.refs.getD r Rf.zero).col,.str (d.tab.refs.getD r Rf.zero).tab]])) kq eb b5 eb rfl kq rfl rfl kq ⟨by decide,by kernel_rfl⟩ kq ep ep) ?_ ?_ ?_
 apply qr 1
 apply qe
 apply ah
 apply ab
 refine qZ [(0,.imm (ms.map Md.v)),(8,.own 1 0 ((wrR (fun n=>ay n ms) d.tab r (wr2 low sto (fun e=>chk e==0) d)).1.length+1)),(9,.ptr 2 0),(10,.bool ((wrR (fun n=>ay n ms) d.tab r (wr2 low sto (fun e=>chk e==0) d)).2)),(17,nI r),(177,.int .i64 (aD d.tab.cols ((d.tab.refs.getD r Rf.zero).col))),(178,.bool (decide ((aD d.tab.cols ((d.tab.refs.getD r Rf.zero).col))<0))),(182,.int .i64 (aD d.tab.cols ((d.tab.refs.getD r Rf.zero).col))),(183,.bool (decide ((aD d.tab.cols ((d.tab.refs.getD r Rf.zero).col)) ≥ 0))),(195,.bool (tgt ((ay ((d.tab.refs.getD r Rf.zero).tab) ms).getD Tb.zero) ((d.tab.cols.getD (((aD d.tab.cols ((d.tab.refs.getD r Rf.zero).col))).toNat) Co.zero).type))),(196,.bool (!(tgt ((ay ((d.tab.refs.getD r Rf.zero).tab) ms).getD Tb.zero) ((d.tab.cols.getD (((aD d.tab.cols ((d.tab.refs.getD r Rf.zero).col))).toNat) Co.zero).type))))] [.box (Dc.cs d),.arr 1 ((wrR (fun n=>ay n ms) d.tab r (wr2 low sto (fun e=>chk e==0) d)).1.map Ls.v++[.full [.str (d.tab.refs.getD r Rf.zero).col,.str (d.tab.refs.getD r Rf.zero).tab]]) 0,.box (Tb.cs d.tab),.box [.str (d.tab.refs.getD r Rf.zero).col,.str (d.tab.refs.getD r Rf.zero).tab],.box (Tb.cs ((ay ((d.tab.refs.getD r Rf.zero).tab) ms).getD Tb.zero))] ?_ ?_
 refine ed 1 (sz:=1) (fr:=0) (es:=((wrR (fun n=>ay n ms) d.tab r (wr2 low sto (fun e=>chk e==0) d)).1.map Ls.v++[.full [.str (d.tab.refs.getD r Rf.zero).col,.str (d.tab.refs.getD r Rf.zero).tab]])) (((wrR (fun n=>ay n ms) d.tab r (wr2 low sto (fun e=>chk e==0) d)).1++[[(d.tab.refs.getD r Rf.zero).col,(d.tab.refs.getD r Rf.zero).tab]]).map Ls.v) kq eY kV ?_
 refine fY 8 (.own 1 0 ((wrR (fun n=>ay n ms) d.tab r (wr2 low sto (fun e=>chk e==0) d)).1.length+1)) (.own 1 0 ((wrR (fun n=>ay n ms) d.tab r (wr2 low sto (fun e=>chk e==0) d)).1++[[(d.tab.refs.getD r Rf.zero).col,(d.tab.refs.getD r Rf.zero).tab]]).length) kq zq ?_
 refine qZ [(0,.imm (ms.map Md.v)),(8,.own 1 0 ((wrR (fun n=>ay n ms) d.tab r (wr2 low sto (fun e=>chk e==0) d)).1++[[(d.tab.refs.getD r Rf.zero).col,(d.tab.refs.getD r Rf.zero).tab]]).length),(9,.ptr 2 0),(10,.bool ((wrR (fun n=>ay n ms) d.tab r (wr2 low sto (fun e=>chk e==0) d)).2)),(17,nI r),(177,.int .i64 (aD d.tab.cols ((d.tab.refs.getD r Rf.zero).col))),(178,.bool (decide ((aD d.tab.cols ((d.tab.refs.getD r Rf.zero).col))<0))),(182,.int .i64 (aD d.tab.cols ((d.tab.refs.getD r Rf.zero).col))),(183,.bool (decide ((aD d.tab.cols ((d.tab.refs.getD r Rf.zero).col)) ≥ 0))),(195,.bool (tgt ((ay ((d.tab.refs.getD r Rf.zero).tab) ms).getD Tb.zero) ((d.tab.cols.getD (((aD d.tab.cols ((d.tab.refs.getD r Rf.zero).col))).toNat) Co.zero).type))),(196,.bool (!(tgt ((ay ((d.tab.refs.getD r Rf.zero).tab) ms).getD Tb.zero) ((d.tab.cols.getD (((aD d.tab.cols ((d.tab.refs.getD r Rf.zero).col))).toNat) Co.zero).type))))] [.box (Dc.cs d),.arr 1 (((wrR (fun n=>ay n ms) d.tab r (wr2 low sto (fun e=>chk e==0) d)).1++[[(d.tab.refs.getD r Rf.zero).col,(d.tab.refs.getD r Rf.zero).tab]]).map Ls.v) 0,.box (Tb.cs d.tab),.box [.str (d.tab.refs.getD r Rf.zero).col,.str (d.tab.refs.getD r Rf.zero).tab],.box (Tb.cs ((ay ((d.tab.refs.getD r Rf.zero).tab) ms).getD Tb.zero))] ?_ ?_
 apply qo
 apply qr 1
 refine qy (aI (a:=((r:Nat):Int)) (b:=1) kq oq oq) ?_ ?_ ?_
 apply qr 1
 apply qe
 refine ab ⟨r+1,?_,?_,⟨⟨kq,(Eq.trans (b:=.own 1 0 ((wrR (fun n=>ay n ms) d.tab r (wr2 low sto (fun e=>chk e==0) d)).1++[[(d.tab.refs.getD r Rf.zero).col,(d.tab.refs.getD r Rf.zero).tab]]).length) kq B9),kq,(Eq.trans (b:=.bool ((wrR (fun n=>ay n ms) d.tab r (wr2 low sto (fun e=>chk e==0) d)).2)) kq (by rw [fg (b:=true) (c:=false) (nR aq (fm aq) (by rw [← mq aq];assumption)) (uh aq aq)] <;> simp)),kq,trivial⟩,by simp [aG,aa.bel],by simp,(Eq.trans (b:=[.box (Dc.cs d),.arr 1 (((wrR (fun n=>ay n ms) d.tab r (wr2 low sto (fun e=>chk e==0) d)).1++[[(d.tab.refs.getD r Rf.zero).col,(d.tab.refs.getD r Rf.zero).tab]]).map Ls.v) 0,.box (Tb.cs d.tab)]) kq B9),by simp [ai.belO,av,aa.bel,Ty.v,Ex.v,Ct.v,Co.v,Rf.v,Sm.v,Tb.v_cs,Sc.v,Md.v,Pb.v,Ls.v,-List.map_take,-List.map_drop,-List.map_append]⟩⟩
 · omega
 · omega
 iterate 29 kernel_rfl
 · exfalso;omega
 iterate 9 kernel_rfl
 refine qm [175,176] (x:=(!((ay ((d.tab.refs.getD r Rf.zero).tab) ms).isSome))) (congrArg not (Bool.eq_false_iff.2 hb19)) ?_ ?_
 refine qR 3 [(0,.imm (ms.map Md.v)),(8,.own 1 0 (wrR (fun n=>ay n ms) d.tab r (wr2 low sto (fun e=>chk e==0) d)).1.length),(9,.ptr 2 0),(10,.bool ((wrR (fun n=>ay n ms) d.tab r (wr2 low sto (fun e=>chk e==0) d)).2)),(17,nI r),(18,.ptr 3 0),(19,.int .i64 (aD d.tab.cols ((d.tab.refs.getD r Rf.zero).col))),(20,.bool (((d.tab.refs.take r).any (fun x=>x.col==(d.tab.refs.getD r Rf.zero).col)))),(22,.ptr 4 0),(23,.bool ((ay ((d.tab.refs.getD r Rf.zero).tab) ms).isSome)),(177,.tup []),(178,.tup []),(179,.bool true)] [.box (Dc.cs d),.arr 1 ((wrR (fun n=>ay n ms) d.tab r (wr2 low sto (fun e=>chk e==0) d)).1.map Ls.v) 0,.box (Tb.cs d.tab),.box [.str (d.tab.refs.getD r Rf.zero).col,.str (d.tab.refs.getD r Rf.zero).tab],.box (Tb.cs ((ay ((d.tab.refs.getD r Rf.zero).tab) ms).getD Tb.zero))] ?_ ?_
 refine cU kq kq ?_
 apply qo
 refine qR 1 [(0,.imm (ms.map Md.v)),(8,.own 1 0 (wrR (fun n=>ay n ms) d.tab r (wr2 low sto (fun e=>chk e==0) d)).1.length),(9,.ptr 2 0),(10,.bool true),(17,nI r),(18,.ptr 3 0),(19,.int .i64 (aD d.tab.cols ((d.tab.refs.getD r Rf.zero).col))),(20,.bool (((d.tab.refs.take r).any (fun x=>x.col==(d.tab.refs.getD r Rf.zero).col)))),(22,.ptr 4 0),(23,.bool ((ay ((d.tab.refs.getD r Rf.zero).tab) ms).isSome)),(177,.tup []),(178,.tup [])] [.box (Dc.cs d),.arr 1 ((wrR (fun n=>ay n ms) d.tab r (wr2 low sto (fun e=>chk e==0) d)).1.map Ls.v) 0,.box (Tb.cs d.tab),.box [.str (d.tab.refs.getD r Rf.zero).col,.str (d.tab.refs.getD r Rf.zero).tab],.box (Tb.cs ((ay ((d.tab.refs.getD r Rf.zero).tab) ms).getD Tb.zero))] ?_ ?_
 apply az
 apply qV 2
 apply qm [23,180,181] (Bool.eq_false_iff.2 hb19)
 refine qR 3 [(0,.imm (ms.map Md.v)),(8,.own 1 0 (wrR (fun n=>ay n ms) d.tab r (wr2 low sto (fun e=>chk e==0) d)).1.length),(9,.ptr 2 0),(10,.bool true),(17,nI r),(18,.ptr 3 0),(19,.int .i64 (aD d.tab.cols ((d.tab.refs.getD r Rf.zero).col))),(20,.bool (((d.tab.refs.take r).any (fun x=>x.col==(d.tab.refs.getD r Rf.zero).col)))),(22,.ptr 4 0),(177,.tup []),(178,.tup []),(182,.tup []),(183,.tup []),(184,.bool false)] [.box (Dc.cs d),.arr 1 ((wrR (fun n=>ay n ms) d.tab r (wr2 low sto (fun e=>chk e==0) d)).1.map Ls.v) 0,.box (Tb.cs d.tab),.box [.str (d.tab.refs.getD r Rf.zero).col,.str (d.tab.refs.getD r Rf.zero).tab],.box (Tb.cs ((ay ((d.tab.refs.getD r Rf.zero).tab) ms).getD Tb.zero))] ?_ ?_
 refine nC kq kq ?_
 apply qK
 refine qz [(0,.imm (ms.map Md.v)),(8,.own 1 0 (wrR (fun n=>ay n ms) d.tab r (wr2 low sto (fun e=>chk e==0) d)).1.length),(9,.ptr 2 0),(10,.bool true),(17,nI r),(18,.ptr 3 0),(20,.bool (((d.tab.refs.take r).any (fun x=>x.col==(d.tab.refs.getD r Rf.zero).col)))),(177,.tup []),(178,.tup []),(182,.tup []),(183,.tup [])] ?_ ?_
 refine qU 1 [(0,.imm (ms.map Md.v)),(8,.own 1 0 (wrR (fun n=>ay n ms) d.tab r (wr2 low sto (fun e=>chk e==0) d)).1.length),(9,.ptr 2 0),(10,.bool true),(17,nI r),(18,.ptr 3 0),(177,.tup []),(178,.tup []),(182,.tup []),(183,.tup []),(198,.bool (((d.tab.refs.take r).any (fun x=>x.col==(d.tab.refs.getD r Rf.zero).col))))] ?_ ?_
 by_cases hb29:(((d.tab.refs.take r).any (fun x=>x.col==(d.tab.refs.getD r Rf.zero).col)))=true
 apply qt (hb29)
 apply qo
 apply qr 7
 refine qY (bL (o:=1) (len:=((wrR (fun n=>ay n ms) d.tab r (wr2 low sto (fun e=>chk e==0) d)).1.length)) (l:=(wrR (fun n=>ay n ms) d.tab r (wr2 low sto (fun e=>chk e==0) d)).1) (xs:=[.full [.str (d.tab.refs.getD r Rf.zero).col,.str (d.tab.refs.getD r Rf.zero).tab]]) (enc:=Ls.v) (sz:=1) (fr:=0) (x:=(.full [.full [.str (d.tab.refs.getD r Rf.zero).col,.str (d.tab.refs.getD r Rf.zero).tab]])) kq eb b5 eb rfl kq rfl rfl kq ⟨by decide,by kernel_rfl⟩ kq ep ep) ?_ ?_ ?_
 apply qr 1
 apply qe
 apply ah
 apply ab
 refine qZ [(0,.imm (ms.map Md.v)),(8,.own 1 0 ((wrR (fun n=>ay n ms) d.tab r (wr2 low sto (fun e=>chk e==0) d)).1.length+1)),(9,.ptr 2 0),(10,.bool true),(17,nI r),(177,.tup []),(178,.tup []),(182,.tup []),(183,.tup [])] [.box (Dc.cs d),.arr 1 ((wrR (fun n=>ay n ms) d.tab r (wr2 low sto (fun e=>chk e==0) d)).1.map Ls.v++[.full [.str (d.tab.refs.getD r Rf.zero).col,.str (d.tab.refs.getD r Rf.zero).tab]]) 0,.box (Tb.cs d.tab),.box [.str (d.tab.refs.getD r Rf.zero).col,.str (d.tab.refs.getD r Rf.zero).tab],.box (Tb.cs ((ay ((d.tab.refs.getD r Rf.zero).tab) ms).getD Tb.zero))] ?_ ?_
 refine ed 1 (sz:=1) (fr:=0) (es:=((wrR (fun n=>ay n ms) d.tab r (wr2 low sto (fun e=>chk e==0) d)).1.map Ls.v++[.full [.str (d.tab.refs.getD r Rf.zero).col,.str (d.tab.refs.getD r Rf.zero).tab]])) (((wrR (fun n=>ay n ms) d.tab r (wr2 low sto (fun e=>chk e==0) d)).1++[[(d.tab.refs.getD r Rf.zero).col,(d.tab.refs.getD r Rf.zero).tab]]).map Ls.v) kq eY kV ?_
 refine fY 8 (.own 1 0 ((wrR (fun n=>ay n ms) d.tab r (wr2 low sto (fun e=>chk e==0) d)).1.length+1)) (.own 1 0 ((wrR (fun n=>ay n ms) d.tab r (wr2 low sto (fun e=>chk e==0) d)).1++[[(d.tab.refs.getD r Rf.zero).col,(d.tab.refs.getD r Rf.zero).tab]]).length) kq zq ?_
 refine qZ [(0,.imm (ms.map Md.v)),(8,.own 1 0 ((wrR (fun n=>ay n ms) d.tab r (wr2 low sto (fun e=>chk e==0) d)).1++[[(d.tab.refs.getD r Rf.zero).col,(d.tab.refs.getD r Rf.zero).tab]]).length),(9,.ptr 2 0),(10,.bool true),(17,nI r),(177,.tup []),(178,.tup []),(182,.tup []),(183,.tup [])] [.box (Dc.cs d),.arr 1 (((wrR (fun n=>ay n ms) d.tab r (wr2 low sto (fun e=>chk e==0) d)).1++[[(d.tab.refs.getD r Rf.zero).col,(d.tab.refs.getD r Rf.zero).tab]]).map Ls.v) 0,.box (Tb.cs d.tab),.box [.str (d.tab.refs.getD r Rf.zero).col,.str (d.tab.refs.getD r Rf.zero).tab],.box (Tb.cs ((ay ((d.tab.refs.getD r Rf.zero).tab) ms).getD Tb.zero))] ?_ ?_
 apply qo
 apply qr 1
 refine qy (aI (a:=((r:Nat):Int)) (b:=1) kq oq oq) ?_ ?_ ?_
 apply qr 1
 apply qe
 refine ab ⟨r+1,?_,?_,⟨⟨kq,(Eq.trans (b:=.own 1 0 ((wrR (fun n=>ay n ms) d.tab r (wr2 low sto (fun e=>chk e==0) d)).1++[[(d.tab.refs.getD r Rf.zero).col,(d.tab.refs.getD r Rf.zero).tab]]).length) kq Bi),kq,(Eq.trans (b:=.bool true) kq (by rw [fg (b:=true) (c:=true) (fX aq) (tH aq)] <;> simp)),kq,trivial⟩,by simp [aG,aa.bel],by simp,(Eq.trans (b:=[.box (Dc.cs d),.arr 1 (((wrR (fun n=>ay n ms) d.tab r (wr2 low sto (fun e=>chk e==0) d)).1++[[(d.tab.refs.getD r Rf.zero).col,(d.tab.refs.getD r Rf.zero).tab]]).map Ls.v) 0,.box (Tb.cs d.tab)]) kq Bi),by simp [ai.belO,av,aa.bel,Ty.v,Ex.v,Ct.v,Co.v,Rf.v,Sm.v,Tb.v_cs,Sc.v,Md.v,Pb.v,Ls.v,-List.map_take,-List.map_drop,-List.map_append]⟩⟩
 · omega
 · omega
 iterate 15 kernel_rfl
 apply qf (Bool.eq_false_iff.2 hb29)
 apply qk
 apply ah
 apply ab
 refine qz [(0,.imm (ms.map Md.v)),(8,.own 1 0 (wrR (fun n=>ay n ms) d.tab r (wr2 low sto (fun e=>chk e==0) d)).1.length),(9,.ptr 2 0),(10,.bool true),(17,nI r),(177,.tup []),(178,.tup []),(182,.tup []),(183,.tup [])] ?_ ?_
 apply qo
 apply qr 1
 refine qy (aI (a:=((r:Nat):Int)) (b:=1) kq oq oq) ?_ ?_ ?_
 apply qr 1
 apply qe
 refine ab ⟨r+1,?_,?_,⟨⟨kq,(Eq.trans (b:=.own 1 0 (wrR (fun n=>ay n ms) d.tab r (wr2 low sto (fun e=>chk e==0) d)).1.length) kq AV),kq,(Eq.trans (b:=.bool true) kq (by rw [fg (b:=false) (c:=true) (lk (Bool.eq_false_iff.2 aq) (tH aq)) (tH aq)] <;> simp)),kq,trivial⟩,by simp [aG,aa.bel],by simp,(Eq.trans (b:=[.box (Dc.cs d),.arr 1 ((wrR (fun n=>ay n ms) d.tab r (wr2 low sto (fun e=>chk e==0) d)).1.map Ls.v) 0,.box (Tb.cs d.tab)]) kq AV),by simp [ai.belO,av,aa.bel,Ty.v,Ex.v,Ct.v,Co.v,Rf.v,Sm.v,Tb.v_cs,Sc.v,Md.v,Pb.v,Ls.v,-List.map_take,-List.map_drop,-List.map_append]⟩⟩
 · omega
 · omega
 iterate 46 kernel_rfl
 apply qf (decide_eq_false hb16)
 refine a6 4 kq kq ?_
 apply af
 apply af
 apply aE
 apply ab
 refine qz [(8,.own 1 0 (wrR (fun n=>ay n ms) d.tab r (wr2 low sto (fun e=>chk e==0) d)).1.length),(10,.bool ((wrR (fun n=>ay n ms) d.tab r (wr2 low sto (fun e=>chk e==0) d)).2))] ?_ ?_
 refine qU 4 [(6,.own 1 0 (wrR (fun n=>ay n ms) d.tab r (wr2 low sto (fun e=>chk e==0) d)).1.length),(7,.bool ((wrR (fun n=>ay n ms) d.tab r (wr2 low sto (fun e=>chk e==0) d)).2))] ?_ ?_
 refine cK kq ?_
 refine gH (l:=[.own 1 0 (wrR (fun n=>ay n ms) d.tab r (wr2 low sto (fun e=>chk e==0) d)).1.length,.bool ((wrR (fun n=>ay n ms) d.tab r (wr2 low sto (fun e=>chk e==0) d)).2)]) (.inr rfl) kq ?_
 · have e_:r=d.tab.refs.length:=by omega
   subst e_;simp [a8,aa.frz,aZ,wr]
 iterate 43 kernel_rfl
end Go.Proofs.YtcpklndelobigaaGreatDoor
