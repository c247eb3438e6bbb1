/- What the finder says of a whole table. Conditions: sizes that can be had; what the lexer, Storable and Valid answer for its parts. -/
import Derived.Test.YtcpklndelobigaaGreatDoorM4
set_option linter.all false
namespace Go.Proofs.YtcpklndelobigaaGreatDoor
open Go.Proofs.YtcpklndelobigaaGreatDoor.Abs
set_option maxRecDepth 20000
set_option maxHeartbeats 4000000
section
variable {low:List UInt8→Bool} {sto:Ty→Bool} {chk:Ex→Int} {fst:List UInt8→Option Tb} {doc:List UInt8} {d:Dc} {s:BP}
theorem m4:(bb low sto doc d s).2.length≤s.2.length+1+d.tab.cols.length:=by
 have h:=ls low sto doc d (bif Nat.blt 8 d.tab.cols.length then ak doc d [] s else s) d.tab.cols.length
 have h1:(bif Nat.blt 8 d.tab.cols.length then ak doc d [] s else s).2.length≤s.2.length+1:=by cases Nat.blt 8 d.tab.cols.length <;> simp [ak]
 unfold bb;omega
theorem m1:(bv doc d s).2.length≤s.2.length+1+d.tab.key.length:=by
 have h:=lA doc d (bif aj d.tab then ak doc d [] s else s) d.tab.key.length
 have h1:(bif aj d.tab then ak doc d [] s else s).2.length≤s.2.length+1:=by cases aj d.tab <;> simp [ak]
 unfold bv;omega
theorem ui:(b0 fst doc d s).2.length≤s.2.length+d.tab.refs.length:=l4 fst doc d s _
theorem wD {chk:Ex→Bool}:(de low sto chk fst doc d s).2.length≤s.2.length+2+d.tab.cols.length+d.tab.key.length+d.tab.refs.length:=by
 have h1:=m4 (low:=low) (sto:=sto) (doc:=doc) (d:=d) (s:=s)
 have h2:=m1 (doc:=doc) (d:=d) (s:=bb low sto doc d s)
 have h3:=ui (fst:=fst) (doc:=doc) (d:=d) (s:=bv doc d (bb low sto doc d s))
 unfold de
 cases !low d.name || !chk d.tab.chk <;> simp [aV] <;> omega
theorem zM (h:¬ low d.name=true):de low sto (fun e=>chk e==0) fst doc d s=aV d.name (b0 fst doc d (bv doc d (bb low sto doc d s))):=by unfold de;rw [Bool.eq_false_iff.2 h];rfl
theorem Ap (h2:¬ chk d.tab.chk=0):de low sto (fun e=>chk e==0) fst doc d s=aV d.name (b0 fst doc d (bv doc d (bb low sto doc d s))):=by
 show (bif !low d.name || !(chk d.tab.chk==0) then aV d.name (b0 fst doc d (bv doc d (bb low sto doc d s))) else b0 fst doc d (bv doc d (bb low sto doc d s)))=_;rw [show (chk d.tab.chk==0)=false by simpa using h2];cases low d.name <;> rfl
theorem zg (h:low d.name=true) (h2:chk d.tab.chk=0):de low sto (fun e=>chk e==0) fst doc d s=b0 fst doc d (bv doc d (bb low sto doc d s)):=by
 show (bif !low d.name || !(chk d.tab.chk==0) then aV d.name (b0 fst doc d (bv doc d (bb low sto doc d s))) else b0 fst doc d (bv doc d (bb low sto doc d s)))=_;rw [h,h2];rfl
end
noncomputable def c26:Code:=aT Tryz.f26
theorem kR {p:Prop} (h:p:=by simp [ai.belO,hpF,Ty.v,Ex.v,Ct.v,Co.v,Rf.v,Sm.v,Tb.v_cs,Sc.v,Md.v,Pb.v,Ls.v]):p:=h
theorem y3 {p:Prop} (h:p:=by simp [Ty.v,Ex.v,Ct.v,Co.v,Rf.v,Sm.v,Tb.v_cs,Sc.v,Md.v,Pb.v,Ls.v,-List.map_take,-List.map_drop,-List.map_append]):p:=h
theorem tR (low:List UInt8→Bool) (sto:Ty→Bool) (chk:Ex→Int) (sums:List Sm) (M:Tm_) (s:BP) (doc:List UInt8) (d:Dc) (hd:d.ok) (hs:s.2.length<90000) (hlow:∀ i,i<d.tab.cols.length→ao cx 70 [.int .i64 2,.str (d.tab.cols.getD i Co.zero).name] (.bool (low (d.tab.cols.getD i Co.zero).name))) (hsto:∀ i,i<d.tab.cols.length→ao cx 136 [.imm (sums.map Sm.v),(d.tab.cols.getD i Co.zero).type.v] (.bool (sto (d.tab.cols.getD i Co.zero).type))) (hM:∀ n x,ag n M=some x→x.ok) (hln:ao cx 70 [.int .i64 2,.str d.name] (.bool (low d.name))) (hchk:ao cx 77 [d.tab.chk.v] (.int .i64 (chk d.tab.chk))):aL cx 26 [.ptr 0 0,.str doc,Dc.v d] (hpF sums M s) (fun v h=>v=(.tup [])∧h=hpF sums M (de low sto (fun e=>chk e==0) (fun n=>ag n M) doc d s)):=by
 have hdc:=hd.t.c
 have hdk:=hd.t.k
 have hl1:=m4 (low:=low) (sto:=sto) (doc:=doc) (d:=d) (s:=s)
 have hl2:=m1 (doc:=doc) (d:=d) (s:=bb low sto doc d s)
 refine aC (cx:=cx) 35 4 [] Tryz.func26 rfl rfl rfl rfl rfl zq ?_
 show wpA cx 35 4 (at_ c26 []) _ _ _
 refine qZ [(0,.ptr 0 0),(1,.str doc),(2,Dc.v d)] [.box [.imm (sums.map Sm.v),.map 1,.map 2,.own 3 0 s.2.length],.map (ac aa.str Tb.v M),.map (ac aa.str aa.bool s.1),.arr 5 (s.2.map Pb.v) 0] ?_ ?_
 refine qW 1 [(0,.ptr 0 0),(1,.str doc),(5,.ptr 4 0)] [.box [.imm (sums.map Sm.v),.map 1,.map 2,.own 3 0 s.2.length],.map (ac aa.str Tb.v M),.map (ac aa.str aa.bool s.1),.arr 5 (s.2.map Pb.v) 0,.box (Dc.cs d)] ?_ ?_
 refine qV 3 ?_ ?_
 refine b7 (args:=[.ptr 0 0,.str doc,.agg (Dc.cs d)]) (hs:=[.box [.imm (sums.map Sm.v),.map 1,.map 2,.own 3 0 s.2.length],.map (ac aa.str Tb.v M),.map (ac aa.str aa.bool s.1),.arr 5 (s.2.map Pb.v) 0]) (hs':=[.box [.imm (sums.map Sm.v),.map 1,.map 2,.own 3 0 (bb low sto doc d s).2.length],.map (ac aa.str Tb.v M),.map (ac aa.str aa.bool (bb low sto doc d s).1),.arr 5 ((bb low sto doc d s).2.map Pb.v) 0]) (rest:=[.box (Dc.cs d)]) kq kq kq kq kq (pf low sto sums M s doc d hd oq hlow hsto) kR kR rfl kR kR kq ?_
 refine qN [(0,.ptr 0 0),(1,.str doc),(5,.ptr 4 0)] [.box [.imm (sums.map Sm.v),.map 1,.map 2,.own 3 0 (bb low sto doc d s).2.length],.map (ac aa.str Tb.v M),.map (ac aa.str aa.bool (bb low sto doc d s).1),.arr 5 ((bb low sto doc d s).2.map Pb.v) 0,.box (Dc.cs d)] ?_ ?_
 refine qV 3 ?_ ?_
 refine b7 (args:=[.ptr 0 0,.str doc,.agg (Dc.cs d)]) (hs:=[.box [.imm (sums.map Sm.v),.map 1,.map 2,.own 3 0 (bb low sto doc d s).2.length],.map (ac aa.str Tb.v M),.map (ac aa.str aa.bool (bb low sto doc d s).1),.arr 5 ((bb low sto doc d s).2.map Pb.v) 0]) (hs':=[.box [.imm (sums.map Sm.v),.map 1,.map 2,.own 3 0 (bv doc d (bb low sto doc d s)).2.length],.map (ac aa.str Tb.v M),.map (ac aa.str aa.bool (bv doc d (bb low sto doc d s)).1),.arr 5 ((bv doc d (bb low sto doc d s)).2.map Pb.v) 0]) (rest:=[.box (Dc.cs d)]) kq kq kq kq kq (xj sums M (bb low sto doc d s) doc d hd oq) kR kR rfl kR kR kq ?_
 refine qN [(0,.ptr 0 0),(1,.str doc),(5,.ptr 4 0)] [.box [.imm (sums.map Sm.v),.map 1,.map 2,.own 3 0 (bv doc d (bb low sto doc d s)).2.length],.map (ac aa.str Tb.v M),.map (ac aa.str aa.bool (bv doc d (bb low sto doc d s)).1),.arr 5 ((bv doc d (bb low sto doc d s)).2.map Pb.v) 0,.box (Dc.cs d)] ?_ ?_
 refine qV 3 ?_ ?_
 refine b7 (args:=[.ptr 0 0,.str doc,.agg (Dc.cs d)]) (hs:=[.box [.imm (sums.map Sm.v),.map 1,.map 2,.own 3 0 (bv doc d (bb low sto doc d s)).2.length],.map (ac aa.str Tb.v M),.map (ac aa.str aa.bool (bv doc d (bb low sto doc d s)).1),.arr 5 ((bv doc d (bb low sto doc d s)).2.map Pb.v) 0]) (hs':=[.box [.imm (sums.map Sm.v),.map 1,.map 2,.own 3 0 (b0 (fun n=>ag n M) doc d (bv doc d (bb low sto doc d s))).2.length],.map (ac aa.str Tb.v M),.map (ac aa.str aa.bool (b0 (fun n=>ag n M) doc d (bv doc d (bb low sto doc d s))).1),.arr 5 ((b0 (fun n=>ag n M) doc d (bv doc d (bb low sto doc d s))).2.map Pb.v) 0]) (rest:=[.box (Dc.cs d)]) kq kq kq kq kq (u3 sums M (bv doc d (bb low sto doc d s)) doc d hd oq hM) kR kR rfl kR kR kq ?_
 refine qN [(0,.ptr 0 0),(5,.ptr 4 0)] [.box [.imm (sums.map Sm.v),.map 1,.map 2,.own 3 0 (b0 (fun n=>ag n M) doc d (bv doc d (bb low sto doc d s))).2.length],.map (ac aa.str Tb.v M),.map (ac aa.str aa.bool (b0 (fun n=>ag n M) doc d (bv doc d (bb low sto doc d s))).1),.arr 5 ((b0 (fun n=>ag n M) doc d (bv doc d (bb low sto doc d s))).2.map Pb.v) 0,.box (Dc.cs d)] ?_ ?_
 refine qV 2 ?_ ?_
 refine qc [.int .i64 2,.str d.name] (hln) ?_ ?_
 refine qr 2 ?_ ?_
 by_cases hb1:(low d.name)=true
 refine qm [21,22] (x:=(!(low d.name))) (congrArg not (hb1)) ?_ ?_
 refine qr 3 ?_ ?_
 refine bj (args:=[.agg [.int .i64 (d.tab.chk.kind),.str d.tab.chk.name,.int .i64 (d.tab.chk.n),.str d.tab.chk.s,.imm (d.tab.chk.names.map aa.str),.imm (d.tab.chk.binds.map aa.str),.imm (d.tab.chk.kids.map Ex.enc),.int .i64 (d.tab.chk.pos),.int .i64 (d.tab.chk.fin)]]) kq kq kq kq (hchk) y3 y3 y3 ?_
 refine qR 2 [(0,.ptr 0 0),(5,.ptr 4 0),(28,.bool ((chk d.tab.chk) != 0))] [.box [.imm (sums.map Sm.v),.map 1,.map 2,.own 3 0 (b0 (fun n=>ag n M) doc d (bv doc d (bb low sto doc d s))).2.length],.map (ac aa.str Tb.v M),.map (ac aa.str aa.bool (b0 (fun n=>ag n M) doc d (bv doc d (bb low sto doc d s))).1),.arr 5 ((b0 (fun n=>ag n M) doc d (bv doc d (bb low sto doc d s))).2.map Pb.v) 0,.box (Dc.cs d)] ?_ ?_
 by_cases hb2:(chk d.tab.chk)=0
 refine qf (x:=((chk d.tab.chk) != 0)) (bne_eq_false_iff_eq.2 hb2) ?_ ?_
 refine qk ?_ ?_
 refine dg (l:=[]) (.inl rfl) kq (by rfl) (by simp [a8]) (by simp [a8]) ?_ ?_
 refine Eq.trans (b:=[.box [.imm (sums.map Sm.v),.map 1,.map 2,.own 3 0 (b0 (fun n=>ag n M) doc d (bv doc d (bb low sto doc d s))).2.length],.map (ac aa.str Tb.v M),.map (ac aa.str aa.bool (b0 (fun n=>ag n M) doc d (bv doc d (bb low sto doc d s))).1),.arr 5 ((b0 (fun n=>ag n M) doc d (bv doc d (bb low sto doc d s))).2.map Pb.v) 0]) kq ?_
 rotate_left
 · simp [ai.belO,hpF,Ty.v,Ex.v,Ct.v,Co.v,Rf.v,Sm.v,Tb.v_cs,Sc.v,Md.v,Pb.v,Ls.v]
 iterate 2 kernel_rfl
 refine qt (x:=((chk d.tab.chk) != 0)) (bne_iff_ne.2 hb2) ?_ ?_
 refine b6 cxM kq rM (aU ?_)
 refine qu 6 ?_ ?_
 refine qD (cP (o:=2) (ek:=aa.str) (ev:=aa.bool) (l:=(b0 (fun n=>ag n M) doc d (bv doc d (bb low sto doc d s))).1) (k:=d.name) (x:=true) dV kq er ty9 rfl kq kq) ?_ ?_ ?_ ?_
 refine bG kq ⟨kq,?_⟩
 refine dg (l:=[]) (.inl rfl) kq (by rfl) (by simp [a8]) (by simp [a8]) ?_ ?_
 refine Eq.trans (b:=[.box [.imm (sums.map Sm.v),.map 1,.map 2,.own 3 0 (b0 (fun n=>ag n M) doc d (bv doc d (bb low sto doc d s))).2.length],.map (ac aa.str Tb.v M),.map (ac aa.str aa.bool (bh d.name true (b0 (fun n=>ag n M) doc d (bv doc d (bb low sto doc d s))).1)),.arr 5 ((b0 (fun n=>ag n M) doc d (bv doc d (bb low sto doc d s))).2.map Pb.v) 0]) kq ?_
 rotate_left
 · simp [ai.belO,hpF,Ty.v,Ex.v,Ct.v,Co.v,Rf.v,Sm.v,Tb.v_cs,Sc.v,Md.v,Pb.v,Ls.v]
 iterate 8 kernel_rfl
 refine qm [21,22] (x:=(!(low d.name))) (congrArg not (Bool.eq_false_iff.2 hb1)) ?_ ?_
 refine qR 6 [(0,.ptr 0 0),(5,.ptr 4 0),(28,.bool true)] [.box [.imm (sums.map Sm.v),.map 1,.map 2,.own 3 0 (b0 (fun n=>ag n M) doc d (bv doc d (bb low sto doc d s))).2.length],.map (ac aa.str Tb.v M),.map (ac aa.str aa.bool (b0 (fun n=>ag n M) doc d (bv doc d (bb low sto doc d s))).1),.arr 5 ((b0 (fun n=>ag n M) doc d (bv doc d (bb low sto doc d s))).2.map Pb.v) 0,.box (Dc.cs d)] ?_ ?_
 refine cU kq kq ?_
 refine b6 cxM kq rM (aU ?_)
 refine qu 6 ?_ ?_
 refine qD (cP (o:=2) (ek:=aa.str) (ev:=aa.bool) (l:=(b0 (fun n=>ag n M) doc d (bv doc d (bb low sto doc d s))).1) (k:=d.name) (x:=true) dV kq er ty9 rfl kq kq) ?_ ?_ ?_ ?_
 refine bG kq ⟨kq,?_⟩
 refine dg (l:=[]) (.inl rfl) kq (by rfl) (by simp [a8]) (by simp [a8]) ?_ ?_
 refine Eq.trans (b:=[.box [.imm (sums.map Sm.v),.map 1,.map 2,.own 3 0 (b0 (fun n=>ag n M) doc d (bv doc d (bb low sto doc d s))).2.length],.map (ac aa.str Tb.v M),.map (ac aa.str aa.bool (bh d.name true (b0 (fun n=>ag n M) doc d (bv doc d (bb low sto doc d s))).1)),.arr 5 ((b0 (fun n=>ag n M) doc d (bv doc d (bb low sto doc d s))).2.map Pb.v) 0]) kq ?_
 rotate_left
 · simp [ai.belO,hpF,Ty.v,Ex.v,Ct.v,Co.v,Rf.v,Sm.v,Tb.v_cs,Sc.v,Md.v,Pb.v,Ls.v]
 iterate 17 kernel_rfl
 all_goals
  first|rw [zM aq]|rw [Ap aq]|rw [zg aq aq]
  rfl
end Go.Proofs.YtcpklndelobigaaGreatDoor
