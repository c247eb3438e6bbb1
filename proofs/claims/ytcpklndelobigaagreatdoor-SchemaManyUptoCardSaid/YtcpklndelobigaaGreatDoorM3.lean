/- What the finder says of one table. Conditions: sizes that can be had; what the lexer, Storable and Valid answer for its parts. -/
import Derived.Test.YtcpklndelobigaaGreatDoorM2
set_option linter.all false
namespace Go.Proofs.YtcpklndelobigaaGreatDoor
open Go.Proofs.YtcpklndelobigaaGreatDoor.Abs
set_option maxRecDepth 20000
set_option maxHeartbeats 4000000
structure Tb.ok (t:Tb):Prop where
 c:t.cols.length≤100
 k:t.key.length≤100
 r:t.refs.length≤100
 z:∀ c∈t.cols,c.type.sz<100000000
structure Dc.ok (d:Dc):Prop where
 n:d.name.length<1000000000
 a:-1000000000000≤d.na∧d.na≤1000000000000
 t:d.tab.ok
theorem Tb.ok.co {t:Tb} (h:t.ok) (n:List UInt8):(au t.cols n).type.sz<100000000:=by
 unfold au
 cases e:t.cols.find? (fun c=>c.name==n) with
 | none=>decide
 | some x=>exact h.z x (List.mem_of_find?_eq_some e)
theorem Tb.ok.at {t:Tb} (h:t.ok) (i:Nat):(t.cols.getD i Co.zero).type.sz<100000000:=by
 by_cases hi:i<t.cols.length
 · exact h.z _ (c5 _ _ _ hi)
 · rw [List.getD_eq_getElem?_getD,List.getElem?_eq_none oq];decide
noncomputable def c74:Code:=aT Tryz.f74
theorem di {p:Prop} (h:p:=by simp [ai.belO,hpF,Ty.v,Ex.v,Ct.v,Co.v,Rf.v,Sm.v,Tb.v_cs,Sc.v,Md.v,Pb.v,Ls.v]):p:=h
theorem iY {p:Prop} (h:p:=by simp [Ty.v,Ex.v,Ct.v,Co.v,Rf.v,Sm.v,Tb.v_cs,Sc.v,Md.v,Pb.v,Ls.v,-List.map_take,-List.map_drop,-List.map_append]):p:=h
theorem Ae {p:Prop} (h:p:=by intro _;simp [Ty.v,Ex.v,Ct.v,Co.v,Rf.v,Sm.v,Tb.v_cs,Sc.v,Md.v,Pb.v,Ls.v,-List.map_take,-List.map_drop,-List.map_append]):p:=h
theorem pf (low:List UInt8→Bool) (sto:Ty→Bool) (sums:List Sm) (M:Tm_) (s:BP) (doc:List UInt8) (d:Dc) (hd:d.ok) (hs:s.2.length<100000) (hlow:∀ i,i<d.tab.cols.length→ao cx 70 [.int .i64 2,.str (d.tab.cols.getD i Co.zero).name] (.bool (low (d.tab.cols.getD i Co.zero).name))) (hsto:∀ i,i<d.tab.cols.length→ao cx 136 [.imm (sums.map Sm.v),(d.tab.cols.getD i Co.zero).type.v] (.bool (sto (d.tab.cols.getD i Co.zero).type))):aL cx 74 [.ptr 0 0,.str doc,Dc.v d] (hpF sums M s) (fun v h=>v=(.tup [])∧h=hpF sums M (bb low sto doc d s)):=by
 have hdc:=hd.t.c
 have hs1:(bif Nat.blt 8 d.tab.cols.length then ak doc d [] s else s).2.length≤s.2.length+1:=by cases Nat.blt 8 d.tab.cols.length <;> simp [ak]
 refine aC (cx:=cx) 62 4 [] Tryz.func74 rfl rfl rfl rfl rfl zq ?_
 show wpA cx 62 4 (at_ c74 []) _ _ _
 apply qZ [(0,.ptr 0 0),(1,.str doc),(2,Dc.v d)] [.box [.imm (sums.map Sm.v),.map 1,.map 2,.own 3 0 s.2.length],.map (ac aa.str Tb.v M),.map (ac aa.str aa.bool s.1),.arr 5 (s.2.map Pb.v) 0]
 apply qW 1 [(0,.ptr 0 0),(1,.str doc),(5,.ptr 4 0)] [.box [.imm (sums.map Sm.v),.map 1,.map 2,.own 3 0 s.2.length],.map (ac aa.str Tb.v M),.map (ac aa.str aa.bool s.1),.arr 5 (s.2.map Pb.v) 0,.box (Dc.cs d)]
 refine sY (σ:=Unit) (fun _=>[(0,.ptr 0 0),(1,.str doc),(5,.ptr 4 0)]) (fun _=>[.box [.imm (sums.map Sm.v),.map 1,.map 2,.own 3 0 (bif Nat.blt 8 d.tab.cols.length then ak doc d [] s else s).2.length],.map (ac aa.str Tb.v M),.map (ac aa.str aa.bool (bif Nat.blt 8 d.tab.cols.length then ak doc d [] s else s).1),.arr 5 ((bif Nat.blt 8 d.tab.cols.length then ak doc d [] s else s).2.map Pb.v) 0,.box (Dc.cs d)]) (fun _=>True) kq ?_ ?_
 apply qV 3
 refine qy (aw (l:=d.tab.cols) (enc:=Co.v) kq fv) ?_ ?_ ?_
 apply qR 1 [(0,.ptr 0 0),(1,.str doc),(5,.ptr 4 0),(13,.bool (decide (((d.tab.cols.length:Nat):Int) > 8)))] [.box [.imm (sums.map Sm.v),.map 1,.map 2,.own 3 0 s.2.length],.map (ac aa.str Tb.v M),.map (ac aa.str aa.bool s.1),.arr 5 (s.2.map Pb.v) 0,.box (Dc.cs d)]
 by_cases hb1:((d.tab.cols.length:Nat):Int) > 8
 apply qt (decide_eq_true hb1)
 apply qo
 apply qr 3
 refine b7 (args:=[.ptr 0 0,.str doc,.agg (Dc.cs d),.full []]) (hs:=[.box [.imm (sums.map Sm.v),.map 1,.map 2,.own 3 0 s.2.length],.map (ac aa.str Tb.v M),.map (ac aa.str aa.bool s.1),.arr 5 (s.2.map Pb.v) 0]) (hs':=[.box [.imm (sums.map Sm.v),.map 1,.map 2,.own 3 0 (ak doc d [] s).2.length],.map (ac aa.str Tb.v M),.map (ac aa.str aa.bool (ak doc d [] s).1),.arr 5 ((ak doc d [] s).2.map Pb.v) 0]) (rest:=[.box (Dc.cs d)]) kq kq kq kq kq (bX sums M s doc d [] oq hd.n hd.a) di di rfl di di kq ?_
 apply qe
 refine ab ⟨(),?_,⟨⟨kq,kq,kq,trivial⟩,by simp [aG,aa.bel],by simp,(Eq.trans (b:=[.box [.imm (sums.map Sm.v),.map 1,.map 2,.own 3 0 (ak doc d [] s).2.length],.map (ac aa.str Tb.v M),.map (ac aa.str aa.bool (ak doc d [] s).1),.arr 5 ((ak doc d [] s).2.map Pb.v) 0,.box (Dc.cs d)]) kq (by (first|rw [wH aq]|rw [vV aq]);show _=_;kernel_rfl)),by simp [ai.belO,hpF,Ty.v,Ex.v,Ct.v,Co.v,Rf.v,Sm.v,Tb.v_cs,Sc.v,Md.v,Pb.v,Ls.v]⟩⟩
 · trivial
 iterate 4 kernel_rfl
 apply qf (decide_eq_false hb1)
 apply qk
 refine ab ⟨(),?_,⟨⟨kq,kq,kq,trivial⟩,by simp [aG,aa.bel],by simp,(Eq.trans (b:=[.box [.imm (sums.map Sm.v),.map 1,.map 2,.own 3 0 s.2.length],.map (ac aa.str Tb.v M),.map (ac aa.str aa.bool s.1),.arr 5 (s.2.map Pb.v) 0,.box (Dc.cs d)]) kq (by (first|rw [wH aq]|rw [vV aq]);show _=_;kernel_rfl)),by simp [ai.belO,hpF,Ty.v,Ex.v,Ct.v,Co.v,Rf.v,Sm.v,Tb.v_cs,Sc.v,Md.v,Pb.v,Ls.v]⟩⟩
 · trivial
 iterate 6 kernel_rfl
 rintro _ _
 apply qW 2 [(0,.ptr 0 0),(1,.str doc),(5,.ptr 4 0),(6,.map 5)] [.box [.imm (sums.map Sm.v),.map 1,.map 2,.own 3 0 (bif Nat.blt 8 d.tab.cols.length then ak doc d [] s else s).2.length],.map (ac aa.str Tb.v M),.map (ac aa.str aa.bool (bif Nat.blt 8 d.tab.cols.length then ak doc d [] s else s).1),.arr 5 ((bif Nat.blt 8 d.tab.cols.length then ak doc d [] s else s).2.map Pb.v) 0,.box (Dc.cs d),.map (ac aa.str aa.bool ([]:List (List UInt8×Bool)))]
 apply qV 3
 refine qy (aw (l:=d.tab.cols) (enc:=Co.v) kq fv) ?_ ?_ ?_
 apply qR 1 [(0,.ptr 0 0),(1,.str doc),(5,.ptr 4 0),(6,.map 5),(21,.imm (d.tab.cols.map Co.v)),(22,nI d.tab.cols.length),(23,.int .i64 0)] [.box [.imm (sums.map Sm.v),.map 1,.map 2,.own 3 0 (bif Nat.blt 8 d.tab.cols.length then ak doc d [] s else s).2.length],.map (ac aa.str Tb.v M),.map (ac aa.str aa.bool (bif Nat.blt 8 d.tab.cols.length then ak doc d [] s else s).1),.arr 5 ((bif Nat.blt 8 d.tab.cols.length then ak doc d [] s else s).2.map Pb.v) 0,.box (Dc.cs d),.map (ac aa.str aa.bool ([]:List (List UInt8×Bool)))]
 apply qB 0
 refine bn (σ:=Nat) (fun k=>[(0,.ptr 0 0),(1,.str doc),(5,.ptr 4 0),(6,.map 5),(21,.imm (d.tab.cols.map Co.v)),(22,.int .i64 ((d.tab.cols.length:Nat):Int)),(23,.int .i64 ((k:Nat):Int))]) (fun k=>[.box [.imm (sums.map Sm.v),.map 1,.map 2,.own 3 0 (aP low sto doc d k (bif Nat.blt 8 d.tab.cols.length then ak doc d [] s else s)).2.length],.map (ac aa.str Tb.v M),.map (ac aa.str aa.bool (aP low sto doc d k (bif Nat.blt 8 d.tab.cols.length then ak doc d [] s else s)).1),.arr 5 ((aP low sto doc d k (bif Nat.blt 8 d.tab.cols.length then ak doc d [] s else s)).2.map Pb.v) 0,.box (Dc.cs d),.map (ac aa.str aa.bool (ba d.tab.cols k))]) (fun k=>k≤d.tab.cols.length) (fun k=>d.tab.cols.length - k) 0 kq (by exact Nat.zero_le _) ⟨⟨kq,kq,kq,kq,kq,kq,kq,trivial⟩,by simp [aG,aa.bel],by simp,kq,by simp [ai.belO,hpF,Ty.v,Ex.v,Ct.v,Co.v,Rf.v,Sm.v,Tb.v_cs,Sc.v,Md.v,Pb.v,Ls.v]⟩ ?_
 rintro k hk
 have hcl:=ls low sto doc d (bif Nat.blt 8 d.tab.cols.length then ak doc d [] s else s) k
 apply qW 1 [(0,.ptr 0 0),(1,.str doc),(5,.ptr 4 0),(6,.map 5),(21,.imm (d.tab.cols.map Co.v)),(22,nI d.tab.cols.length),(23,nI k),(24,.bool (decide (((k:Nat):Int)<((d.tab.cols.length:Nat):Int))))] [.box [.imm (sums.map Sm.v),.map 1,.map 2,.own 3 0 (aP low sto doc d k (bif Nat.blt 8 d.tab.cols.length then ak doc d [] s else s)).2.length],.map (ac aa.str Tb.v M),.map (ac aa.str aa.bool (aP low sto doc d k (bif Nat.blt 8 d.tab.cols.length then ak doc d [] s else s)).1),.arr 5 ((aP low sto doc d k (bif Nat.blt 8 d.tab.cols.length then ak doc d [] s else s)).2.map Pb.v) 0,.box (Dc.cs d),.map (ac aa.str aa.bool (ba d.tab.cols k))]
 apply az
 by_cases hb2:((k:Nat):Int)<((d.tab.cols.length:Nat):Int)
 apply qt (decide_eq_true hb2)
 apply qK
 apply qz [(0,.ptr 0 0),(1,.str doc),(5,.ptr 4 0),(6,.map 5),(21,.imm (d.tab.cols.map Co.v)),(22,nI d.tab.cols.length),(23,nI k)]
 apply az
 apply qB 1
 refine qO ?_ ?_
 refine qy ((aA (k:=.i64) (l:=d.tab.cols) (enc:=Co.v) (i:=((k:Nat):Int)) Co.zero kq fv kQ (fun _=>rfl) oq oq).trans (congrArg (fun cs=>some (aa.pimm cs 0,_)) (dm (d.tab.cols.getD k Co.zero)))) ?_ ?_ ?_
 apply qR 3 [(0,.ptr 0 0),(1,.str doc),(5,.ptr 4 0),(6,.map 5),(8,.ptr 6 0),(21,.imm (d.tab.cols.map Co.v)),(22,nI d.tab.cols.length),(23,nI k)] [.box [.imm (sums.map Sm.v),.map 1,.map 2,.own 3 0 (aP low sto doc d k (bif Nat.blt 8 d.tab.cols.length then ak doc d [] s else s)).2.length],.map (ac aa.str Tb.v M),.map (ac aa.str aa.bool (aP low sto doc d k (bif Nat.blt 8 d.tab.cols.length then ak doc d [] s else s)).1),.arr 5 ((aP low sto doc d k (bif Nat.blt 8 d.tab.cols.length then ak doc d [] s else s)).2.map Pb.v) 0,.box (Dc.cs d),.map (ac aa.str aa.bool (ba d.tab.cols k)),.box [.str (d.tab.cols.getD k Co.zero).name,.int .i64 ((d.tab.cols.getD k Co.zero).type.kind),.str (d.tab.cols.getD k Co.zero).type.name,.int .i64 ((d.tab.cols.getD k Co.zero).type.n),.imm ((d.tab.cols.getD k Co.zero).type.names.map aa.str),.imm ((d.tab.cols.getD k Co.zero).type.kids.map Ty.enc)]]
 apply az
 apply qV 2
 refine qc [.int .i64 2,.str (d.tab.cols.getD k Co.zero).name] (hlow k oq) ?_ ?_
 apply qr 2
 by_cases hb3:(low ((d.tab.cols.getD k Co.zero).name))=true
 refine qm [30,31] (x:=(!(low ((d.tab.cols.getD k Co.zero).name)))) (congrArg not (hb3)) ?_ ?_
 apply qr 3
 refine qy (jV (a2:=0) (b2:=0) (ok:=false) (o:=5) (ek:=aa.str) (ev:=aa.bool) (l:=(ba d.tab.cols k)) (k:=((d.tab.cols.getD k Co.zero).name)) dV kq er ty9 kq ty4 kq false kq) ?_ ?_ ?_
 apply qR 1 [(0,.ptr 0 0),(1,.str doc),(5,.ptr 4 0),(6,.map 5),(8,.ptr 6 0),(21,.imm (d.tab.cols.map Co.v)),(22,nI d.tab.cols.length),(23,nI k),(32,.map 5),(33,.ptr 6 0),(34,.str (d.tab.cols.getD k Co.zero).name),(35,.bool (aF (ba d.tab.cols k) ((d.tab.cols.getD k Co.zero).name))),(36,.bool (aF (ba d.tab.cols k) ((d.tab.cols.getD k Co.zero).name)))] [.box [.imm (sums.map Sm.v),.map 1,.map 2,.own 3 0 (aP low sto doc d k (bif Nat.blt 8 d.tab.cols.length then ak doc d [] s else s)).2.length],.map (ac aa.str Tb.v M),.map (ac aa.str aa.bool (aP low sto doc d k (bif Nat.blt 8 d.tab.cols.length then ak doc d [] s else s)).1),.arr 5 ((aP low sto doc d k (bif Nat.blt 8 d.tab.cols.length then ak doc d [] s else s)).2.map Pb.v) 0,.box (Dc.cs d),.map (ac aa.str aa.bool (ba d.tab.cols k)),.box [.str (d.tab.cols.getD k Co.zero).name,.int .i64 ((d.tab.cols.getD k Co.zero).type.kind),.str (d.tab.cols.getD k Co.zero).type.name,.int .i64 ((d.tab.cols.getD k Co.zero).type.n),.imm ((d.tab.cols.getD k Co.zero).type.names.map aa.str),.imm ((d.tab.cols.getD k Co.zero).type.kids.map Ty.enc)]]
 by_cases hb4:(aF (ba d.tab.cols k) ((d.tab.cols.getD k Co.zero).name))=true
 apply qt (hb4)
 refine b6 cxM kq ap (aU ?_)
 apply qu 6
 refine qD (cP (o:=2) (ek:=aa.str) (ev:=aa.bool) (l:=(aP low sto doc d k (bif Nat.blt 8 d.tab.cols.length then ak doc d [] s else s)).1) (k:=d.name) (x:=true) dV kq er ty9 rfl kq kq) ?_ ?_ ?_ ?_
 refine bG kq ⟨kq,?_⟩
 apply ab
 apply qZ [(0,.ptr 0 0),(1,.str doc),(5,.ptr 4 0),(6,.map 5),(8,.ptr 6 0),(21,.imm (d.tab.cols.map Co.v)),(22,nI d.tab.cols.length),(23,nI k),(32,.map 5),(33,.ptr 6 0),(34,.str (d.tab.cols.getD k Co.zero).name),(35,.bool (aF (ba d.tab.cols k) ((d.tab.cols.getD k Co.zero).name)))] [.box [.imm (sums.map Sm.v),.map 1,.map 2,.own 3 0 (aP low sto doc d k (bif Nat.blt 8 d.tab.cols.length then ak doc d [] s else s)).2.length],.map (ac aa.str Tb.v M),.map (ac aa.str aa.bool (bh d.name true (aP low sto doc d k (bif Nat.blt 8 d.tab.cols.length then ak doc d [] s else s)).1)),.arr 5 ((aP low sto doc d k (bif Nat.blt 8 d.tab.cols.length then ak doc d [] s else s)).2.map Pb.v) 0,.box (Dc.cs d),.map (ac aa.str aa.bool (ba d.tab.cols k)),.box [.str (d.tab.cols.getD k Co.zero).name,.int .i64 ((d.tab.cols.getD k Co.zero).type.kind),.str (d.tab.cols.getD k Co.zero).type.name,.int .i64 ((d.tab.cols.getD k Co.zero).type.n),.imm ((d.tab.cols.getD k Co.zero).type.names.map aa.str),.imm ((d.tab.cols.getD k Co.zero).type.kids.map Ty.enc)]]
 apply qZ [(0,.ptr 0 0),(1,.str doc),(5,.ptr 4 0),(6,.map 5),(8,.ptr 6 0),(21,.imm (d.tab.cols.map Co.v)),(22,nI d.tab.cols.length),(23,nI k),(32,.map 5),(33,.ptr 6 0),(34,.str (d.tab.cols.getD k Co.zero).name),(35,.bool (aF (ba d.tab.cols k) ((d.tab.cols.getD k Co.zero).name)))] [.box [.imm (sums.map Sm.v),.map 1,.map 2,.own 3 0 (aV d.name (aP low sto doc d k (bif Nat.blt 8 d.tab.cols.length then ak doc d [] s else s))).2.length],.map (ac aa.str Tb.v M),.map (ac aa.str aa.bool (aV d.name (aP low sto doc d k (bif Nat.blt 8 d.tab.cols.length then ak doc d [] s else s))).1),.arr 5 ((aV d.name (aP low sto doc d k (bif Nat.blt 8 d.tab.cols.length then ak doc d [] s else s))).2.map Pb.v) 0,.box (Dc.cs d),.map (ac aa.str aa.bool (ba d.tab.cols k)),.box [.str (d.tab.cols.getD k Co.zero).name,.int .i64 ((d.tab.cols.getD k Co.zero).type.kind),.str (d.tab.cols.getD k Co.zero).type.name,.int .i64 ((d.tab.cols.getD k Co.zero).type.n),.imm ((d.tab.cols.getD k Co.zero).type.names.map aa.str),.imm ((d.tab.cols.getD k Co.zero).type.kids.map Ty.enc)]]
 apply az
 apply az
 refine b6 cxM kq ap (aU ?_)
 apply qu 6
 refine cc (args:=[.imm (sums.map Sm.v),.agg [.int .i64 ((d.tab.cols.getD k Co.zero).type.kind),.str (d.tab.cols.getD k Co.zero).type.name,.int .i64 ((d.tab.cols.getD k Co.zero).type.n),.imm ((d.tab.cols.getD k Co.zero).type.names.map aa.str),.imm ((d.tab.cols.getD k Co.zero).type.kids.map Ty.enc)]]) kq kq kq kq kq (hsto k oq) Ae iY iY ?_
 apply qu 1
 refine bG kq ⟨kq,?_⟩
 apply ab
 apply qZ [(0,.ptr 0 0),(1,.str doc),(5,.ptr 4 0),(6,.map 5),(8,.ptr 6 0),(21,.imm (d.tab.cols.map Co.v)),(22,nI d.tab.cols.length),(23,nI k),(32,.map 5),(33,.ptr 6 0),(34,.str (d.tab.cols.getD k Co.zero).name),(35,.bool (aF (ba d.tab.cols k) ((d.tab.cols.getD k Co.zero).name))),(50,.bool (!(sto ((d.tab.cols.getD k Co.zero).type))))] [.box [.imm (sums.map Sm.v),.map 1,.map 2,.own 3 0 (aV d.name (aP low sto doc d k (bif Nat.blt 8 d.tab.cols.length then ak doc d [] s else s))).2.length],.map (ac aa.str Tb.v M),.map (ac aa.str aa.bool (aV d.name (aP low sto doc d k (bif Nat.blt 8 d.tab.cols.length then ak doc d [] s else s))).1),.arr 5 ((aV d.name (aP low sto doc d k (bif Nat.blt 8 d.tab.cols.length then ak doc d [] s else s))).2.map Pb.v) 0,.box (Dc.cs d),.map (ac aa.str aa.bool (ba d.tab.cols k)),.box [.str (d.tab.cols.getD k Co.zero).name,.int .i64 ((d.tab.cols.getD k Co.zero).type.kind),.str (d.tab.cols.getD k Co.zero).type.name,.int .i64 ((d.tab.cols.getD k Co.zero).type.n),.imm ((d.tab.cols.getD k Co.zero).type.names.map aa.str),.imm ((d.tab.cols.getD k Co.zero).type.kids.map Ty.enc)]]
 by_cases hb5:(sto ((d.tab.cols.getD k Co.zero).type))=true
 refine qf (x:=(!(sto ((d.tab.cols.getD k Co.zero).type)))) (congrArg not (hb5)) ?_ ?_
 apply qK
 apply qz [(0,.ptr 0 0),(1,.str doc),(5,.ptr 4 0),(6,.map 5),(8,.ptr 6 0),(21,.imm (d.tab.cols.map Co.v)),(22,nI d.tab.cols.length),(23,nI k),(32,.map 5),(33,.ptr 6 0),(34,.str (d.tab.cols.getD k Co.zero).name),(35,.bool (aF (ba d.tab.cols k) ((d.tab.cols.getD k Co.zero).name)))]
 apply qo
 apply qr 3
 refine qY (cP (o:=5) (ek:=aa.str) (ev:=aa.bool) (l:=(ba d.tab.cols k)) (k:=((d.tab.cols.getD k Co.zero).name)) (x:=true) dV kq er ty9 rfl kq kq) ?_ ?_ ?_
 apply qe
 apply ah
 apply ab
 apply qZ [(0,.ptr 0 0),(1,.str doc),(5,.ptr 4 0),(6,.map 5),(21,.imm (d.tab.cols.map Co.v)),(22,nI d.tab.cols.length),(23,nI k),(32,.map 5),(33,.ptr 6 0),(34,.str (d.tab.cols.getD k Co.zero).name),(35,.bool (aF (ba d.tab.cols k) ((d.tab.cols.getD k Co.zero).name)))] [.box [.imm (sums.map Sm.v),.map 1,.map 2,.own 3 0 (aV d.name (aP low sto doc d k (bif Nat.blt 8 d.tab.cols.length then ak doc d [] s else s))).2.length],.map (ac aa.str Tb.v M),.map (ac aa.str aa.bool (aV d.name (aP low sto doc d k (bif Nat.blt 8 d.tab.cols.length then ak doc d [] s else s))).1),.arr 5 ((aV d.name (aP low sto doc d k (bif Nat.blt 8 d.tab.cols.length then ak doc d [] s else s))).2.map Pb.v) 0,.box (Dc.cs d),.map (ac aa.str aa.bool (bh ((d.tab.cols.getD k Co.zero).name) true (ba d.tab.cols k))),.box [.str (d.tab.cols.getD k Co.zero).name,.int .i64 ((d.tab.cols.getD k Co.zero).type.kind),.str (d.tab.cols.getD k Co.zero).type.name,.int .i64 ((d.tab.cols.getD k Co.zero).type.n),.imm ((d.tab.cols.getD k Co.zero).type.names.map aa.str),.imm ((d.tab.cols.getD k Co.zero).type.kids.map Ty.enc)]]
 apply qo
 refine qy (aI (a:=((k:Nat):Int)) (b:=1) kq oq oq) ?_ ?_ ?_
 apply qr 1
 apply qe
 refine ab ⟨k+1,?_,?_,⟨⟨kq,kq,kq,kq,kq,kq,kq,trivial⟩,by simp [aG,aa.bel],by simp,(Eq.trans (b:=[.box [.imm (sums.map Sm.v),.map 1,.map 2,.own 3 0 (aV d.name (aP low sto doc d k (bif Nat.blt 8 d.tab.cols.length then ak doc d [] s else s))).2.length],.map (ac aa.str Tb.v M),.map (ac aa.str aa.bool (aV d.name (aP low sto doc d k (bif Nat.blt 8 d.tab.cols.length then ak doc d [] s else s))).1),.arr 5 ((aV d.name (aP low sto doc d k (bif Nat.blt 8 d.tab.cols.length then ak doc d [] s else s))).2.map Pb.v) 0,.box (Dc.cs d),.map (ac aa.str aa.bool (bh ((d.tab.cols.getD k Co.zero).name) true (ba d.tab.cols k)))]) kq (by rw [j5 (b:=true) (c:=true) (vH oq aq aq) aq];show _=_;kernel_rfl)),by simp [ai.belO,hpF,Ty.v,Ex.v,Ct.v,Co.v,Rf.v,Sm.v,Tb.v_cs,Sc.v,Md.v,Pb.v,Ls.v]⟩⟩
 · omega
 · omega
 iterate 14 kernel_rfl
 refine qt (x:=(!(sto ((d.tab.cols.getD k Co.zero).type)))) (congrArg not (Bool.eq_false_iff.2 hb5)) ?_ ?_
 apply qo
 apply qr 6
 refine b7 (args:=[.ptr 0 0,.str doc,.agg (Dc.cs d),.full [.str (d.tab.cols.getD k Co.zero).name]]) (hs:=[.box [.imm (sums.map Sm.v),.map 1,.map 2,.own 3 0 (aV d.name (aP low sto doc d k (bif Nat.blt 8 d.tab.cols.length then ak doc d [] s else s))).2.length],.map (ac aa.str Tb.v M),.map (ac aa.str aa.bool (aV d.name (aP low sto doc d k (bif Nat.blt 8 d.tab.cols.length then ak doc d [] s else s))).1),.arr 5 ((aV d.name (aP low sto doc d k (bif Nat.blt 8 d.tab.cols.length then ak doc d [] s else s))).2.map Pb.v) 0]) (hs':=[.box [.imm (sums.map Sm.v),.map 1,.map 2,.own 3 0 (ak doc d [(d.tab.cols.getD k Co.zero).name] (aV d.name (aP low sto doc d k (bif Nat.blt 8 d.tab.cols.length then ak doc d [] s else s)))).2.length],.map (ac aa.str Tb.v M),.map (ac aa.str aa.bool (ak doc d [(d.tab.cols.getD k Co.zero).name] (aV d.name (aP low sto doc d k (bif Nat.blt 8 d.tab.cols.length then ak doc d [] s else s)))).1),.arr 5 ((ak doc d [(d.tab.cols.getD k Co.zero).name] (aV d.name (aP low sto doc d k (bif Nat.blt 8 d.tab.cols.length then ak doc d [] s else s)))).2.map Pb.v) 0]) (rest:=[.box (Dc.cs d),.map (ac aa.str aa.bool (ba d.tab.cols k)),.box [.str (d.tab.cols.getD k Co.zero).name,.int .i64 ((d.tab.cols.getD k Co.zero).type.kind),.str (d.tab.cols.getD k Co.zero).type.name,.int .i64 ((d.tab.cols.getD k Co.zero).type.n),.imm ((d.tab.cols.getD k Co.zero).type.names.map aa.str),.imm ((d.tab.cols.getD k Co.zero).type.kids.map Ty.enc)]]) kq kq kq kq kq (bX sums M (aV d.name (aP low sto doc d k (bif Nat.blt 8 d.tab.cols.length then ak doc d [] s else s))) doc d [(d.tab.cols.getD k Co.zero).name] (by simp only [aV,bP];omega) hd.n hd.a) di di rfl di di kq ?_
 apply qN [(0,.ptr 0 0),(1,.str doc),(5,.ptr 4 0),(6,.map 5),(8,.ptr 6 0),(21,.imm (d.tab.cols.map Co.v)),(22,nI d.tab.cols.length),(23,nI k),(32,.map 5),(33,.ptr 6 0),(34,.str (d.tab.cols.getD k Co.zero).name),(35,.bool (aF (ba d.tab.cols k) ((d.tab.cols.getD k Co.zero).name)))] [.box [.imm (sums.map Sm.v),.map 1,.map 2,.own 3 0 (ak doc d [(d.tab.cols.getD k Co.zero).name] (aV d.name (aP low sto doc d k (bif Nat.blt 8 d.tab.cols.length then ak doc d [] s else s)))).2.length],.map (ac aa.str Tb.v M),.map (ac aa.str aa.bool (ak doc d [(d.tab.cols.getD k Co.zero).name] (aV d.name (aP low sto doc d k (bif Nat.blt 8 d.tab.cols.length then ak doc d [] s else s)))).1),.arr 5 ((ak doc d [(d.tab.cols.getD k Co.zero).name] (aV d.name (aP low sto doc d k (bif Nat.blt 8 d.tab.cols.length then ak doc d [] s else s)))).2.map Pb.v) 0,.box (Dc.cs d),.map (ac aa.str aa.bool (ba d.tab.cols k)),.box [.str (d.tab.cols.getD k Co.zero).name,.int .i64 ((d.tab.cols.getD k Co.zero).type.kind),.str (d.tab.cols.getD k Co.zero).type.name,.int .i64 ((d.tab.cols.getD k Co.zero).type.n),.imm ((d.tab.cols.getD k Co.zero).type.names.map aa.str),.imm ((d.tab.cols.getD k Co.zero).type.kids.map Ty.enc)]]
 apply qo
 apply qr 3
 refine qY (cP (o:=5) (ek:=aa.str) (ev:=aa.bool) (l:=(ba d.tab.cols k)) (k:=((d.tab.cols.getD k Co.zero).name)) (x:=true) dV kq er ty9 rfl kq kq) ?_ ?_ ?_
 apply qe
 apply ah
 apply ab
 apply qZ [(0,.ptr 0 0),(1,.str doc),(5,.ptr 4 0),(6,.map 5),(21,.imm (d.tab.cols.map Co.v)),(22,nI d.tab.cols.length),(23,nI k),(32,.map 5),(33,.ptr 6 0),(34,.str (d.tab.cols.getD k Co.zero).name),(35,.bool (aF (ba d.tab.cols k) ((d.tab.cols.getD k Co.zero).name)))] [.box [.imm (sums.map Sm.v),.map 1,.map 2,.own 3 0 (ak doc d [(d.tab.cols.getD k Co.zero).name] (aV d.name (aP low sto doc d k (bif Nat.blt 8 d.tab.cols.length then ak doc d [] s else s)))).2.length],.map (ac aa.str Tb.v M),.map (ac aa.str aa.bool (ak doc d [(d.tab.cols.getD k Co.zero).name] (aV d.name (aP low sto doc d k (bif Nat.blt 8 d.tab.cols.length then ak doc d [] s else s)))).1),.arr 5 ((ak doc d [(d.tab.cols.getD k Co.zero).name] (aV d.name (aP low sto doc d k (bif Nat.blt 8 d.tab.cols.length then ak doc d [] s else s)))).2.map Pb.v) 0,.box (Dc.cs d),.map (ac aa.str aa.bool (bh ((d.tab.cols.getD k Co.zero).name) true (ba d.tab.cols k))),.box [.str (d.tab.cols.getD k Co.zero).name,.int .i64 ((d.tab.cols.getD k Co.zero).type.kind),.str (d.tab.cols.getD k Co.zero).type.name,.int .i64 ((d.tab.cols.getD k Co.zero).type.n),.imm ((d.tab.cols.getD k Co.zero).type.names.map aa.str),.imm ((d.tab.cols.getD k Co.zero).type.kids.map Ty.enc)]]
 apply qo
 refine qy (aI (a:=((k:Nat):Int)) (b:=1) kq oq oq) ?_ ?_ ?_
 apply qr 1
 apply qe
 refine ab ⟨k+1,?_,?_,⟨⟨kq,kq,kq,kq,kq,kq,kq,trivial⟩,by simp [aG,aa.bel],by simp,(Eq.trans (b:=[.box [.imm (sums.map Sm.v),.map 1,.map 2,.own 3 0 (ak doc d [(d.tab.cols.getD k Co.zero).name] (aV d.name (aP low sto doc d k (bif Nat.blt 8 d.tab.cols.length then ak doc d [] s else s)))).2.length],.map (ac aa.str Tb.v M),.map (ac aa.str aa.bool (ak doc d [(d.tab.cols.getD k Co.zero).name] (aV d.name (aP low sto doc d k (bif Nat.blt 8 d.tab.cols.length then ak doc d [] s else s)))).1),.arr 5 ((ak doc d [(d.tab.cols.getD k Co.zero).name] (aV d.name (aP low sto doc d k (bif Nat.blt 8 d.tab.cols.length then ak doc d [] s else s)))).2.map Pb.v) 0,.box (Dc.cs d),.map (ac aa.str aa.bool (bh ((d.tab.cols.getD k Co.zero).name) true (ba d.tab.cols k)))]) kq (by rw [j5 (b:=true) (c:=false) (vH oq aq aq) (Bool.eq_false_iff.2 aq)];show _=_;kernel_rfl)),by simp [ai.belO,hpF,Ty.v,Ex.v,Ct.v,Co.v,Rf.v,Sm.v,Tb.v_cs,Sc.v,Md.v,Pb.v,Ls.v]⟩⟩
 · omega
 · omega
 iterate 27 kernel_rfl
 apply qf (Bool.eq_false_iff.2 hb4)
 apply qK
 apply qz [(0,.ptr 0 0),(1,.str doc),(5,.ptr 4 0),(6,.map 5),(8,.ptr 6 0),(21,.imm (d.tab.cols.map Co.v)),(22,nI d.tab.cols.length),(23,nI k),(32,.map 5),(33,.ptr 6 0),(34,.str (d.tab.cols.getD k Co.zero).name),(35,.bool (aF (ba d.tab.cols k) ((d.tab.cols.getD k Co.zero).name)))]
 apply az
 apply az
 refine b6 cxM kq ap (aU ?_)
 apply qu 6
 refine cc (args:=[.imm (sums.map Sm.v),.agg [.int .i64 ((d.tab.cols.getD k Co.zero).type.kind),.str (d.tab.cols.getD k Co.zero).type.name,.int .i64 ((d.tab.cols.getD k Co.zero).type.n),.imm ((d.tab.cols.getD k Co.zero).type.names.map aa.str),.imm ((d.tab.cols.getD k Co.zero).type.kids.map Ty.enc)]]) kq kq kq kq kq (hsto k oq) Ae iY iY ?_
 apply qu 1
 refine bG kq ⟨kq,?_⟩
 apply ab
 apply qZ [(0,.ptr 0 0),(1,.str doc),(5,.ptr 4 0),(6,.map 5),(8,.ptr 6 0),(21,.imm (d.tab.cols.map Co.v)),(22,nI d.tab.cols.length),(23,nI k),(32,.map 5),(33,.ptr 6 0),(34,.str (d.tab.cols.getD k Co.zero).name),(35,.bool (aF (ba d.tab.cols k) ((d.tab.cols.getD k Co.zero).name))),(50,.bool (!(sto ((d.tab.cols.getD k Co.zero).type))))] [.box [.imm (sums.map Sm.v),.map 1,.map 2,.own 3 0 (aP low sto doc d k (bif Nat.blt 8 d.tab.cols.length then ak doc d [] s else s)).2.length],.map (ac aa.str Tb.v M),.map (ac aa.str aa.bool (aP low sto doc d k (bif Nat.blt 8 d.tab.cols.length then ak doc d [] s else s)).1),.arr 5 ((aP low sto doc d k (bif Nat.blt 8 d.tab.cols.length then ak doc d [] s else s)).2.map Pb.v) 0,.box (Dc.cs d),.map (ac aa.str aa.bool (ba d.tab.cols k)),.box [.str (d.tab.cols.getD k Co.zero).name,.int .i64 ((d.tab.cols.getD k Co.zero).type.kind),.str (d.tab.cols.getD k Co.zero).type.name,.int .i64 ((d.tab.cols.getD k Co.zero).type.n),.imm ((d.tab.cols.getD k Co.zero).type.names.map aa.str),.imm ((d.tab.cols.getD k Co.zero).type.kids.map Ty.enc)]]
 by_cases hb6:(sto ((d.tab.cols.getD k Co.zero).type))=true
 refine qf (x:=(!(sto ((d.tab.cols.getD k Co.zero).type)))) (congrArg not (hb6)) ?_ ?_
 apply qK
 apply qz [(0,.ptr 0 0),(1,.str doc),(5,.ptr 4 0),(6,.map 5),(8,.ptr 6 0),(21,.imm (d.tab.cols.map Co.v)),(22,nI d.tab.cols.length),(23,nI k),(32,.map 5),(33,.ptr 6 0),(34,.str (d.tab.cols.getD k Co.zero).name),(35,.bool (aF (ba d.tab.cols k) ((d.tab.cols.getD k Co.zero).name)))]
 apply qo
 apply qr 3
 refine qY (cP (o:=5) (ek:=aa.str) (ev:=aa.bool) (l:=(ba d.tab.cols k)) (k:=((d.tab.cols.getD k Co.zero).name)) (x:=true) dV kq er ty9 rfl kq kq) ?_ ?_ ?_
 apply qe
 apply ah
 apply ab
 apply qZ [(0,.ptr 0 0),(1,.str doc),(5,.ptr 4 0),(6,.map 5),(21,.imm (d.tab.cols.map Co.v)),(22,nI d.tab.cols.length),(23,nI k),(32,.map 5),(33,.ptr 6 0),(34,.str (d.tab.cols.getD k Co.zero).name),(35,.bool (aF (ba d.tab.cols k) ((d.tab.cols.getD k Co.zero).name)))] [.box [.imm (sums.map Sm.v),.map 1,.map 2,.own 3 0 (aP low sto doc d k (bif Nat.blt 8 d.tab.cols.length then ak doc d [] s else s)).2.length],.map (ac aa.str Tb.v M),.map (ac aa.str aa.bool (aP low sto doc d k (bif Nat.blt 8 d.tab.cols.length then ak doc d [] s else s)).1),.arr 5 ((aP low sto doc d k (bif Nat.blt 8 d.tab.cols.length then ak doc d [] s else s)).2.map Pb.v) 0,.box (Dc.cs d),.map (ac aa.str aa.bool (bh ((d.tab.cols.getD k Co.zero).name) true (ba d.tab.cols k))),.box [.str (d.tab.cols.getD k Co.zero).name,.int .i64 ((d.tab.cols.getD k Co.zero).type.kind),.str (d.tab.cols.getD k Co.zero).type.name,.int .i64 ((d.tab.cols.getD k Co.zero).type.n),.imm ((d.tab.cols.getD k Co.zero).type.names.map aa.str),.imm ((d.tab.cols.getD k Co.zero).type.kids.map Ty.enc)]]
 apply qo
 refine qy (aI (a:=((k:Nat):Int)) (b:=1) kq oq oq) ?_ ?_ ?_
 apply qr 1
 apply qe
 refine ab ⟨k+1,?_,?_,⟨⟨kq,kq,kq,kq,kq,kq,kq,trivial⟩,by simp [aG,aa.bel],by simp,(Eq.trans (b:=[.box [.imm (sums.map Sm.v),.map 1,.map 2,.own 3 0 (aP low sto doc d k (bif Nat.blt 8 d.tab.cols.length then ak doc d [] s else s)).2.length],.map (ac aa.str Tb.v M),.map (ac aa.str aa.bool (aP low sto doc d k (bif Nat.blt 8 d.tab.cols.length then ak doc d [] s else s)).1),.arr 5 ((aP low sto doc d k (bif Nat.blt 8 d.tab.cols.length then ak doc d [] s else s)).2.map Pb.v) 0,.box (Dc.cs d),.map (ac aa.str aa.bool (bh ((d.tab.cols.getD k Co.zero).name) true (ba d.tab.cols k)))]) kq (by rw [j5 (b:=false) (c:=true) (ve oq aq aq) aq];show _=_;kernel_rfl)),by simp [ai.belO,hpF,Ty.v,Ex.v,Ct.v,Co.v,Rf.v,Sm.v,Tb.v_cs,Sc.v,Md.v,Pb.v,Ls.v]⟩⟩
 · omega
 · omega
 iterate 14 kernel_rfl
 refine qt (x:=(!(sto ((d.tab.cols.getD k Co.zero).type)))) (congrArg not (Bool.eq_false_iff.2 hb6)) ?_ ?_
 apply qo
 apply qr 6
 refine b7 (args:=[.ptr 0 0,.str doc,.agg (Dc.cs d),.full [.str (d.tab.cols.getD k Co.zero).name]]) (hs:=[.box [.imm (sums.map Sm.v),.map 1,.map 2,.own 3 0 (aP low sto doc d k (bif Nat.blt 8 d.tab.cols.length then ak doc d [] s else s)).2.length],.map (ac aa.str Tb.v M),.map (ac aa.str aa.bool (aP low sto doc d k (bif Nat.blt 8 d.tab.cols.length then ak doc d [] s else s)).1),.arr 5 ((aP low sto doc d k (bif Nat.blt 8 d.tab.cols.length then ak doc d [] s else s)).2.map Pb.v) 0]) (hs':=[.box [.imm (sums.map Sm.v),.map 1,.map 2,.own 3 0 (ak doc d [(d.tab.cols.getD k Co.zero).name] (aP low sto doc d k (bif Nat.blt 8 d.tab.cols.length then ak doc d [] s else s))).2.length],.map (ac aa.str Tb.v M),.map (ac aa.str aa.bool (ak doc d [(d.tab.cols.getD k Co.zero).name] (aP low sto doc d k (bif Nat.blt 8 d.tab.cols.length then ak doc d [] s else s))).1),.arr 5 ((ak doc d [(d.tab.cols.getD k Co.zero).name] (aP low sto doc d k (bif Nat.blt 8 d.tab.cols.length then ak doc d [] s else s))).2.map Pb.v) 0]) (rest:=[.box (Dc.cs d),.map (ac aa.str aa.bool (ba d.tab.cols k)),.box [.str (d.tab.cols.getD k Co.zero).name,.int .i64 ((d.tab.cols.getD k Co.zero).type.kind),.str (d.tab.cols.getD k Co.zero).type.name,.int .i64 ((d.tab.cols.getD k Co.zero).type.n),.imm ((d.tab.cols.getD k Co.zero).type.names.map aa.str),.imm ((d.tab.cols.getD k Co.zero).type.kids.map Ty.enc)]]) kq kq kq kq kq (bX sums M (aP low sto doc d k (bif Nat.blt 8 d.tab.cols.length then ak doc d [] s else s)) doc d [(d.tab.cols.getD k Co.zero).name] oq hd.n hd.a) di di rfl di di kq ?_
 apply qN [(0,.ptr 0 0),(1,.str doc),(5,.ptr 4 0),(6,.map 5),(8,.ptr 6 0),(21,.imm (d.tab.cols.map Co.v)),(22,nI d.tab.cols.length),(23,nI k),(32,.map 5),(33,.ptr 6 0),(34,.str (d.tab.cols.getD k Co.zero).name),(35,.bool (aF (ba d.tab.cols k) ((d.tab.cols.getD k Co.zero).name)))] [.box [.imm (sums.map Sm.v),.map 1,.map 2,.own 3 0 (ak doc d [(d.tab.cols.getD k Co.zero).name] (aP low sto doc d k (bif Nat.blt 8 d.tab.cols.length then ak doc d [] s else s))).2.length],.map (ac aa.str Tb.v M),.map (ac aa.str aa.bool (ak doc d [(d.tab.cols.getD k Co.zero).name] (aP low sto doc d k (bif Nat.blt 8 d.tab.cols.length then ak doc d [] s else s))).1),.arr 5 ((ak doc d [(d.tab.cols.getD k Co.zero).name] (aP low sto doc d k (bif Nat.blt 8 d.tab.cols.length then ak doc d [] s else s))).2.map Pb.v) 0,.box (Dc.cs d),.map (ac aa.str aa.bool (ba d.tab.cols k)),.box [.str (d.tab.cols.getD k Co.zero).name,.int .i64 ((d.tab.cols.getD k Co.zero).type.kind),.str (d.tab.cols.getD k Co.zero).type.name,.int .i64 ((d.tab.cols.getD k Co.zero).type.n),.imm ((d.tab.cols.getD k Co.zero).type.names.map aa.str),.imm ((d.tab.cols.getD k Co.zero).type.kids.map Ty.enc)]]
 apply qo
 apply qr 3
 refine qY (cP (o:=5) (ek:=aa.str) (ev:=aa.bool) (l:=(ba d.tab.cols k)) (k:=((d.tab.cols.getD k Co.zero).name)) (x:=true) dV kq er ty9 rfl kq kq) ?_ ?_ ?_
 apply qe
 apply ah
 apply ab
 apply qZ [(0,.ptr 0 0),(1,.str doc),(5,.ptr 4 0),(6,.map 5),(21,.imm (d.tab.cols.map Co.v)),(22,nI d.tab.cols.length),(23,nI k),(32,.map 5),(33,.ptr 6 0),(34,.str (d.tab.cols.getD k Co.zero).name),(35,.bool (aF (ba d.tab.cols k) ((d.tab.cols.getD k Co.zero).name)))] [.box [.imm (sums.map Sm.v),.map 1,.map 2,.own 3 0 (ak doc d [(d.tab.cols.getD k Co.zero).name] (aP low sto doc d k (bif Nat.blt 8 d.tab.cols.length then ak doc d [] s else s))).2.length],.map (ac aa.str Tb.v M),.map (ac aa.str aa.bool (ak doc d [(d.tab.cols.getD k Co.zero).name] (aP low sto doc d k (bif Nat.blt 8 d.tab.cols.length then ak doc d [] s else s))).1),.arr 5 ((ak doc d [(d.tab.cols.getD k Co.zero).name] (aP low sto doc d k (bif Nat.blt 8 d.tab.cols.length then ak doc d [] s else s))).2.map Pb.v) 0,.box (Dc.cs d),.map (ac aa.str aa.bool (bh ((d.tab.cols.getD k Co.zero).name) true (ba d.tab.cols k))),.box [.str (d.tab.cols.getD k Co.zero).name,.int .i64 ((d.tab.cols.getD k Co.zero).type.kind),.str (d.tab.cols.getD k Co.zero).type.name,.int .i64 ((d.tab.cols.getD k Co.zero).type.n),.imm ((d.tab.cols.getD k Co.zero).type.names.map aa.str),.imm ((d.tab.cols.getD k Co.zero).type.kids.map Ty.enc)]]
 apply qo
 refine qy (aI (a:=((k:Nat):Int)) (b:=1) kq oq oq) ?_ ?_ ?_
 apply qr 1
 apply qe
 refine ab ⟨k+1,?_,?_,⟨⟨kq,kq,kq,kq,kq,kq,kq,trivial⟩,by simp [aG,aa.bel],by simp,(Eq.trans (b:=[.box [.imm (sums.map Sm.v),.map 1,.map 2,.own 3 0 (ak doc d [(d.tab.cols.getD k Co.zero).name] (aP low sto doc d k (bif Nat.blt 8 d.tab.cols.length then ak doc d [] s else s))).2.length],.map (ac aa.str Tb.v M),.map (ac aa.str aa.bool (ak doc d [(d.tab.cols.getD k Co.zero).name] (aP low sto doc d k (bif Nat.blt 8 d.tab.cols.length then ak doc d [] s else s))).1),.arr 5 ((ak doc d [(d.tab.cols.getD k Co.zero).name] (aP low sto doc d k (bif Nat.blt 8 d.tab.cols.length then ak doc d [] s else s))).2.map Pb.v) 0,.box (Dc.cs d),.map (ac aa.str aa.bool (bh ((d.tab.cols.getD k Co.zero).name) true (ba d.tab.cols k)))]) kq (by rw [j5 (b:=false) (c:=false) (ve oq aq aq) (Bool.eq_false_iff.2 aq)];show _=_;kernel_rfl)),by simp [ai.belO,hpF,Ty.v,Ex.v,Ct.v,Co.v,Rf.v,Sm.v,Tb.v_cs,Sc.v,Md.v,Pb.v,Ls.v]⟩⟩
 · omega
 · omega
 iterate 28 kernel_rfl
 refine qm [30,31] (x:=(!(low ((d.tab.cols.getD k Co.zero).name)))) (congrArg not (Bool.eq_false_iff.2 hb3)) ?_ ?_
 apply qR 5 [(0,.ptr 0 0),(1,.str doc),(5,.ptr 4 0),(6,.map 5),(8,.ptr 6 0),(21,.imm (d.tab.cols.map Co.v)),(22,nI d.tab.cols.length),(23,nI k),(32,.tup []),(33,.tup []),(34,.tup []),(35,.tup []),(36,.bool true)] [.box [.imm (sums.map Sm.v),.map 1,.map 2,.own 3 0 (aP low sto doc d k (bif Nat.blt 8 d.tab.cols.length then ak doc d [] s else s)).2.length],.map (ac aa.str Tb.v M),.map (ac aa.str aa.bool (aP low sto doc d k (bif Nat.blt 8 d.tab.cols.length then ak doc d [] s else s)).1),.arr 5 ((aP low sto doc d k (bif Nat.blt 8 d.tab.cols.length then ak doc d [] s else s)).2.map Pb.v) 0,.box (Dc.cs d),.map (ac aa.str aa.bool (ba d.tab.cols k)),.box [.str (d.tab.cols.getD k Co.zero).name,.int .i64 ((d.tab.cols.getD k Co.zero).type.kind),.str (d.tab.cols.getD k Co.zero).type.name,.int .i64 ((d.tab.cols.getD k Co.zero).type.n),.imm ((d.tab.cols.getD k Co.zero).type.names.map aa.str),.imm ((d.tab.cols.getD k Co.zero).type.kids.map Ty.enc)]]
 refine cU kq kq ?_
 refine b6 cxM kq ap (aU ?_)
 apply qu 6
 refine qD (cP (o:=2) (ek:=aa.str) (ev:=aa.bool) (l:=(aP low sto doc d k (bif Nat.blt 8 d.tab.cols.length then ak doc d [] s else s)).1) (k:=d.name) (x:=true) dV kq er ty9 rfl kq kq) ?_ ?_ ?_ ?_
 refine bG kq ⟨kq,?_⟩
 apply ab
 apply qZ [(0,.ptr 0 0),(1,.str doc),(5,.ptr 4 0),(6,.map 5),(8,.ptr 6 0),(21,.imm (d.tab.cols.map Co.v)),(22,nI d.tab.cols.length),(23,nI k),(32,.tup []),(33,.tup []),(34,.tup []),(35,.tup [])] [.box [.imm (sums.map Sm.v),.map 1,.map 2,.own 3 0 (aP low sto doc d k (bif Nat.blt 8 d.tab.cols.length then ak doc d [] s else s)).2.length],.map (ac aa.str Tb.v M),.map (ac aa.str aa.bool (bh d.name true (aP low sto doc d k (bif Nat.blt 8 d.tab.cols.length then ak doc d [] s else s)).1)),.arr 5 ((aP low sto doc d k (bif Nat.blt 8 d.tab.cols.length then ak doc d [] s else s)).2.map Pb.v) 0,.box (Dc.cs d),.map (ac aa.str aa.bool (ba d.tab.cols k)),.box [.str (d.tab.cols.getD k Co.zero).name,.int .i64 ((d.tab.cols.getD k Co.zero).type.kind),.str (d.tab.cols.getD k Co.zero).type.name,.int .i64 ((d.tab.cols.getD k Co.zero).type.n),.imm ((d.tab.cols.getD k Co.zero).type.names.map aa.str),.imm ((d.tab.cols.getD k Co.zero).type.kids.map Ty.enc)]]
 apply qZ [(0,.ptr 0 0),(1,.str doc),(5,.ptr 4 0),(6,.map 5),(8,.ptr 6 0),(21,.imm (d.tab.cols.map Co.v)),(22,nI d.tab.cols.length),(23,nI k),(32,.tup []),(33,.tup []),(34,.tup []),(35,.tup [])] [.box [.imm (sums.map Sm.v),.map 1,.map 2,.own 3 0 (aV d.name (aP low sto doc d k (bif Nat.blt 8 d.tab.cols.length then ak doc d [] s else s))).2.length],.map (ac aa.str Tb.v M),.map (ac aa.str aa.bool (aV d.name (aP low sto doc d k (bif Nat.blt 8 d.tab.cols.length then ak doc d [] s else s))).1),.arr 5 ((aV d.name (aP low sto doc d k (bif Nat.blt 8 d.tab.cols.length then ak doc d [] s else s))).2.map Pb.v) 0,.box (Dc.cs d),.map (ac aa.str aa.bool (ba d.tab.cols k)),.box [.str (d.tab.cols.getD k Co.zero).name,.int .i64 ((d.tab.cols.getD k Co.zero).type.kind),.str (d.tab.cols.getD k Co.zero).type.name,.int .i64 ((d.tab.cols.getD k Co.zero).type.n),.imm ((d.tab.cols.getD k Co.zero).type.names.map aa.str),.imm ((d.tab.cols.getD k Co.zero).type.kids.map Ty.enc)]]
 apply az
 apply az
 refine b6 cxM kq ap (aU ?_)
 apply qu 6
 refine cc (args:=[.imm (sums.map Sm.v),.agg [.int .i64 ((d.tab.cols.getD k Co.zero).type.kind),.str (d.tab.cols.getD k Co.zero).type.name,.int .i64 ((d.tab.cols.getD k Co.zero).type.n),.imm ((d.tab.cols.getD k Co.zero).type.names.map aa.str),.imm ((d.tab.cols.getD k Co.zero).type.kids.map Ty.enc)]]) kq kq kq kq kq (hsto k oq) Ae iY iY ?_
 apply qu 1
 refine bG kq ⟨kq,?_⟩
 apply ab
 apply qZ [(0,.ptr 0 0),(1,.str doc),(5,.ptr 4 0),(6,.map 5),(8,.ptr 6 0),(21,.imm (d.tab.cols.map Co.v)),(22,nI d.tab.cols.length),(23,nI k),(32,.tup []),(33,.tup []),(34,.tup []),(35,.tup []),(50,.bool (!(sto ((d.tab.cols.getD k Co.zero).type))))] [.box [.imm (sums.map Sm.v),.map 1,.map 2,.own 3 0 (aV d.name (aP low sto doc d k (bif Nat.blt 8 d.tab.cols.length then ak doc d [] s else s))).2.length],.map (ac aa.str Tb.v M),.map (ac aa.str aa.bool (aV d.name (aP low sto doc d k (bif Nat.blt 8 d.tab.cols.length then ak doc d [] s else s))).1),.arr 5 ((aV d.name (aP low sto doc d k (bif Nat.blt 8 d.tab.cols.length then ak doc d [] s else s))).2.map Pb.v) 0,.box (Dc.cs d),.map (ac aa.str aa.bool (ba d.tab.cols k)),.box [.str (d.tab.cols.getD k Co.zero).name,.int .i64 ((d.tab.cols.getD k Co.zero).type.kind),.str (d.tab.cols.getD k Co.zero).type.name,.int .i64 ((d.tab.cols.getD k Co.zero).type.n),.imm ((d.tab.cols.getD k Co.zero).type.names.map aa.str),.imm ((d.tab.cols.getD k Co.zero).type.kids.map Ty.enc)]]
 by_cases hb7:(sto ((d.tab.cols.getD k Co.zero).type))=true
 refine qf (x:=(!(sto ((d.tab.cols.getD k Co.zero).type)))) (congrArg not (hb7)) ?_ ?_
 apply qK
 apply qz [(0,.ptr 0 0),(1,.str doc),(5,.ptr 4 0),(6,.map 5),(8,.ptr 6 0),(21,.imm (d.tab.cols.map Co.v)),(22,nI d.tab.cols.length),(23,nI k),(32,.tup []),(33,.tup []),(34,.tup []),(35,.tup [])]
 apply qo
 apply qr 3
 refine qY (cP (o:=5) (ek:=aa.str) (ev:=aa.bool) (l:=(ba d.tab.cols k)) (k:=((d.tab.cols.getD k Co.zero).name)) (x:=true) dV kq er ty9 rfl kq kq) ?_ ?_ ?_
 apply qe
 apply ah
 apply ab
 apply qZ [(0,.ptr 0 0),(1,.str doc),(5,.ptr 4 0),(6,.map 5),(21,.imm (d.tab.cols.map Co.v)),(22,nI d.tab.cols.length),(23,nI k),(32,.tup []),(33,.tup []),(34,.tup []),(35,.tup [])] [.box [.imm (sums.map Sm.v),.map 1,.map 2,.own 3 0 (aV d.name (aP low sto doc d k (bif Nat.blt 8 d.tab.cols.length then ak doc d [] s else s))).2.length],.map (ac aa.str Tb.v M),.map (ac aa.str aa.bool (aV d.name (aP low sto doc d k (bif Nat.blt 8 d.tab.cols.length then ak doc d [] s else s))).1),.arr 5 ((aV d.name (aP low sto doc d k (bif Nat.blt 8 d.tab.cols.length then ak doc d [] s else s))).2.map Pb.v) 0,.box (Dc.cs d),.map (ac aa.str aa.bool (bh ((d.tab.cols.getD k Co.zero).name) true (ba d.tab.cols k))),.box [.str (d.tab.cols.getD k Co.zero).name,.int .i64 ((d.tab.cols.getD k Co.zero).type.kind),.str (d.tab.cols.getD k Co.zero).type.name,.int .i64 ((d.tab.cols.getD k Co.zero).type.n),.imm ((d.tab.cols.getD k Co.zero).type.names.map aa.str),.imm ((d.tab.cols.getD k Co.zero).type.kids.map Ty.enc)]]
 apply qo
 refine qy (aI (a:=((k:Nat):Int)) (b:=1) kq oq oq) ?_ ?_ ?_
 apply qr 1
 apply qe
 refine ab ⟨k+1,?_,?_,⟨⟨kq,kq,kq,kq,kq,kq,kq,trivial⟩,by simp [aG,aa.bel],by simp,(Eq.trans (b:=[.box [.imm (sums.map Sm.v),.map 1,.map 2,.own 3 0 (aV d.name (aP low sto doc d k (bif Nat.blt 8 d.tab.cols.length then ak doc d [] s else s))).2.length],.map (ac aa.str Tb.v M),.map (ac aa.str aa.bool (aV d.name (aP low sto doc d k (bif Nat.blt 8 d.tab.cols.length then ak doc d [] s else s))).1),.arr 5 ((aV d.name (aP low sto doc d k (bif Nat.blt 8 d.tab.cols.length then ak doc d [] s else s))).2.map Pb.v) 0,.box (Dc.cs d),.map (ac aa.str aa.bool (bh ((d.tab.cols.getD k Co.zero).name) true (ba d.tab.cols k)))]) kq (by rw [j5 (b:=true) (c:=true) (vP aq) aq];show _=_;kernel_rfl)),by simp [ai.belO,hpF,Ty.v,Ex.v,Ct.v,Co.v,Rf.v,Sm.v,Tb.v_cs,Sc.v,Md.v,Pb.v,Ls.v]⟩⟩
 · omega
 · omega
 iterate 14 kernel_rfl
 refine qt (x:=(!(sto ((d.tab.cols.getD k Co.zero).type)))) (congrArg not (Bool.eq_false_iff.2 hb7)) ?_ ?_
 apply qo
 apply qr 6
 refine b7 (args:=[.ptr 0 0,.str doc,.agg (Dc.cs d),.full [.str (d.tab.cols.getD k Co.zero).name]]) (hs:=[.box [.imm (sums.map Sm.v),.map 1,.map 2,.own 3 0 (aV d.name (aP low sto doc d k (bif Nat.blt 8 d.tab.cols.length then ak doc d [] s else s))).2.length],.map (ac aa.str Tb.v M),.map (ac aa.str aa.bool (aV d.name (aP low sto doc d k (bif Nat.blt 8 d.tab.cols.length then ak doc d [] s else s))).1),.arr 5 ((aV d.name (aP low sto doc d k (bif Nat.blt 8 d.tab.cols.length then ak doc d [] s else s))).2.map Pb.v) 0]) (hs':=[.box [.imm (sums.map Sm.v),.map 1,.map 2,.own 3 0 (ak doc d [(d.tab.cols.getD k Co.zero).name] (aV d.name (aP low sto doc d k (bif Nat.blt 8 d.tab.cols.length then ak doc d [] s else s)))).2.length],.map (ac aa.str Tb.v M),.map (ac aa.str aa.bool (ak doc d [(d.tab.cols.getD k Co.zero).name] (aV d.name (aP low sto doc d k (bif Nat.blt 8 d.tab.cols.length then ak doc d [] s else s)))).1),.arr 5 ((ak doc d [(d.tab.cols.getD k Co.zero).name] (aV d.name (aP low sto doc d k (bif Nat.blt 8 d.tab.cols.length then ak doc d [] s else s)))).2.map Pb.v) 0]) (rest:=[.box (Dc.cs d),.map (ac aa.str aa.bool (ba d.tab.cols k)),.box [.str (d.tab.cols.getD k Co.zero).name,.int .i64 ((d.tab.cols.getD k Co.zero).type.kind),.str (d.tab.cols.getD k Co.zero).type.name,.int .i64 ((d.tab.cols.getD k Co.zero).type.n),.imm ((d.tab.cols.getD k Co.zero).type.names.map aa.str),.imm ((d.tab.cols.getD k Co.zero).type.kids.map Ty.enc)]]) kq kq kq kq kq (bX sums M (aV d.name (aP low sto doc d k (bif Nat.blt 8 d.tab.cols.length then ak doc d [] s else s))) doc d [(d.tab.cols.getD k Co.zero).name] (by simp only [aV,bP];omega) hd.n hd.a) di di rfl di di kq ?_
 apply qN [(0,.ptr 0 0),(1,.str doc),(5,.ptr 4 0),(6,.map 5),(8,.ptr 6 0),(21,.imm (d.tab.cols.map Co.v)),(22,nI d.tab.cols.length),(23,nI k),(32,.tup []),(33,.tup []),(34,.tup []),(35,.tup [])] [.box [.imm (sums.map Sm.v),.map 1,.map 2,.own 3 0 (ak doc d [(d.tab.cols.getD k Co.zero).name] (aV d.name (aP low sto doc d k (bif Nat.blt 8 d.tab.cols.length then ak doc d [] s else s)))).2.length],.map (ac aa.str Tb.v M),.map (ac aa.str aa.bool (ak doc d [(d.tab.cols.getD k Co.zero).name] (aV d.name (aP low sto doc d k (bif Nat.blt 8 d.tab.cols.length then ak doc d [] s else s)))).1),.arr 5 ((ak doc d [(d.tab.cols.getD k Co.zero).name] (aV d.name (aP low sto doc d k (bif Nat.blt 8 d.tab.cols.length then ak doc d [] s else s)))).2.map Pb.v) 0,.box (Dc.cs d),.map (ac aa.str aa.bool (ba d.tab.cols k)),.box [.str (d.tab.cols.getD k Co.zero).name,.int .i64 ((d.tab.cols.getD k Co.zero).type.kind),.str (d.tab.cols.getD k Co.zero).type.name,.int .i64 ((d.tab.cols.getD k Co.zero).type.n),.imm ((d.tab.cols.getD k Co.zero).type.names.map aa.str),.imm ((d.tab.cols.getD k Co.zero).type.kids.map Ty.enc)]]
 apply qo
 apply qr 3
 refine qY (cP (o:=5) (ek:=aa.str) (ev:=aa.bool) (l:=(ba d.tab.cols k)) (k:=((d.tab.cols.getD k Co.zero).name)) (x:=true) dV kq er ty9 rfl kq kq) ?_ ?_ ?_
 apply qe
 apply ah
 apply ab
 apply qZ [(0,.ptr 0 0),(1,.str doc),(5,.ptr 4 0),(6,.map 5),(21,.imm (d.tab.cols.map Co.v)),(22,nI d.tab.cols.length),(23,nI k),(32,.tup []),(33,.tup []),(34,.tup []),(35,.tup [])] [.box [.imm (sums.map Sm.v),.map 1,.map 2,.own 3 0 (ak doc d [(d.tab.cols.getD k Co.zero).name] (aV d.name (aP low sto doc d k (bif Nat.blt 8 d.tab.cols.length then ak doc d [] s else s)))).2.length],.map (ac aa.str Tb.v M),.map (ac aa.str aa.bool (ak doc d [(d.tab.cols.getD k Co.zero).name] (aV d.name (aP low sto doc d k (bif Nat.blt 8 d.tab.cols.length then ak doc d [] s else s)))).1),.arr 5 ((ak doc d [(d.tab.cols.getD k Co.zero).name] (aV d.name (aP low sto doc d k (bif Nat.blt 8 d.tab.cols.length then ak doc d [] s else s)))).2.map Pb.v) 0,.box (Dc.cs d),.map (ac aa.str aa.bool (bh ((d.tab.cols.getD k Co.zero).name) true (ba d.tab.cols k))),.box [.str (d.tab.cols.getD k Co.zero).name,.int .i64 ((d.tab.cols.getD k Co.zero).type.kind),.str (d.tab.cols.getD k Co.zero).type.name,.int .i64 ((d.tab.cols.getD k Co.zero).type.n),.imm ((d.tab.cols.getD k Co.zero).type.names.map aa.str),.imm ((d.tab.cols.getD k Co.zero).type.kids.map Ty.enc)]]
 apply qo
 refine qy (aI (a:=((k:Nat):Int)) (b:=1) kq oq oq) ?_ ?_ ?_
 apply qr 1
 apply qe
 refine ab ⟨k+1,?_,?_,⟨⟨kq,kq,kq,kq,kq,kq,kq,trivial⟩,by simp [aG,aa.bel],by simp,(Eq.trans (b:=[.box [.imm (sums.map Sm.v),.map 1,.map 2,.own 3 0 (ak doc d [(d.tab.cols.getD k Co.zero).name] (aV d.name (aP low sto doc d k (bif Nat.blt 8 d.tab.cols.length then ak doc d [] s else s)))).2.length],.map (ac aa.str Tb.v M),.map (ac aa.str aa.bool (ak doc d [(d.tab.cols.getD k Co.zero).name] (aV d.name (aP low sto doc d k (bif Nat.blt 8 d.tab.cols.length then ak doc d [] s else s)))).1),.arr 5 ((ak doc d [(d.tab.cols.getD k Co.zero).name] (aV d.name (aP low sto doc d k (bif Nat.blt 8 d.tab.cols.length then ak doc d [] s else s)))).2.map Pb.v) 0,.box (Dc.cs d),.map (ac aa.str aa.bool (bh ((d.tab.cols.getD k Co.zero).name) true (ba d.tab.cols k)))]) kq (by rw [j5 (b:=true) (c:=false) (vP aq) (Bool.eq_false_iff.2 aq)];show _=_;kernel_rfl)),by simp [ai.belO,hpF,Ty.v,Ex.v,Ct.v,Co.v,Rf.v,Sm.v,Tb.v_cs,Sc.v,Md.v,Pb.v,Ls.v]⟩⟩
 · omega
 · omega
 iterate 42 kernel_rfl
 apply qf (decide_eq_false hb2)
 refine a6 0 kq kq ?_
 apply af
 apply af
 apply aE
 refine dg (l:=[]) (.inl rfl) kq (by rfl) (by simp [a8]) (by simp [a8]) ?_ ?_
 refine Eq.trans (b:=[.box [.imm (sums.map Sm.v),.map 1,.map 2,.own 3 0 (aP low sto doc d k (bif Nat.blt 8 d.tab.cols.length then ak doc d [] s else s)).2.length],.map (ac aa.str Tb.v M),.map (ac aa.str aa.bool (aP low sto doc d k (bif Nat.blt 8 d.tab.cols.length then ak doc d [] s else s)).1),.arr 5 ((aP low sto doc d k (bif Nat.blt 8 d.tab.cols.length then ak doc d [] s else s)).2.map Pb.v) 0]) kq ?_
 · have e:k=d.tab.cols.length:=by omega
   subst e;rfl
 · simp [ai.belO,hpF,Ty.v,Ex.v,Ct.v,Co.v,Rf.v,Sm.v,Tb.v_cs,Sc.v,Md.v,Pb.v,Ls.v]
 iterate 12 kernel_rfl
noncomputable def c75:Code:=aT Tryz.f75
theorem zA {p:Prop} (h:p:=by (first|rw [pX aq]|rw [p8 aq]|rw [qx aq aq]);show _=_;kernel_rfl):p:=h
theorem xj (sums:List Sm) (M:Tm_) (s:BP) (doc:List UInt8) (d:Dc) (hd:d.ok) (hs:s.2.length<100000):aL cx 75 [.ptr 0 0,.str doc,Dc.v d] (hpF sums M s) (fun v h=>v=(.tup [])∧h=hpF sums M (bv doc d s)):=by
 have hdc:=hd.t.c
 have hdk:=hd.t.k
 have hs1:(bif aj d.tab then ak doc d [] s else s).2.length≤s.2.length+1:=by cases aj d.tab <;> simp [ak]
 refine aC (cx:=cx) 65 4 [] Tryz.func75 rfl rfl rfl rfl rfl zq ?_
 show wpA cx 65 4 (at_ c75 []) _ _ _
 apply qZ [(0,.ptr 0 0),(1,.str doc),(2,Dc.v d)] [.box [.imm (sums.map Sm.v),.map 1,.map 2,.own 3 0 s.2.length],.map (ac aa.str Tb.v M),.map (ac aa.str aa.bool s.1),.arr 5 (s.2.map Pb.v) 0]
 apply qW 1 [(0,.ptr 0 0),(1,.str doc),(5,.ptr 4 0)] [.box [.imm (sums.map Sm.v),.map 1,.map 2,.own 3 0 s.2.length],.map (ac aa.str Tb.v M),.map (ac aa.str aa.bool s.1),.arr 5 (s.2.map Pb.v) 0,.box (Dc.cs d)]
 refine sY (σ:=Unit) (fun _=>[(0,.ptr 0 0),(1,.str doc),(5,.ptr 4 0)]) (fun _=>[.box [.imm (sums.map Sm.v),.map 1,.map 2,.own 3 0 (bif aj d.tab then ak doc d [] s else s).2.length],.map (ac aa.str Tb.v M),.map (ac aa.str aa.bool (bif aj d.tab then ak doc d [] s else s).1),.arr 5 ((bif aj d.tab then ak doc d [] s else s).2.map Pb.v) 0,.box (Dc.cs d)]) (fun _=>True) kq ?_ ?_
 apply qV 3
 refine qy (aw (l:=d.tab.key) (enc:=aa.str) kq b5) ?_ ?_ ?_
 apply qr 2
 by_cases hb1:((d.tab.key.length:Nat):Int)<1
 apply qm [14,15] (decide_eq_true hb1)
 apply qR 6 [(0,.ptr 0 0),(1,.str doc),(5,.ptr 4 0),(21,.bool true)] [.box [.imm (sums.map Sm.v),.map 1,.map 2,.own 3 0 s.2.length],.map (ac aa.str Tb.v M),.map (ac aa.str aa.bool s.1),.arr 5 (s.2.map Pb.v) 0,.box (Dc.cs d)]
 refine cU kq kq ?_
 apply qo
 apply qr 3
 refine b7 (args:=[.ptr 0 0,.str doc,.agg (Dc.cs d),.full []]) (hs:=[.box [.imm (sums.map Sm.v),.map 1,.map 2,.own 3 0 s.2.length],.map (ac aa.str Tb.v M),.map (ac aa.str aa.bool s.1),.arr 5 (s.2.map Pb.v) 0]) (hs':=[.box [.imm (sums.map Sm.v),.map 1,.map 2,.own 3 0 (ak doc d [] s).2.length],.map (ac aa.str Tb.v M),.map (ac aa.str aa.bool (ak doc d [] s).1),.arr 5 ((ak doc d [] s).2.map Pb.v) 0]) (rest:=[.box (Dc.cs d)]) kq kq kq kq kq (bX sums M s doc d [] oq hd.n hd.a) di di rfl di di kq ?_
 apply qe
 refine ab ⟨(),?_,⟨⟨kq,kq,kq,trivial⟩,by simp [aG,aa.bel],by simp,(Eq.trans (b:=[.box [.imm (sums.map Sm.v),.map 1,.map 2,.own 3 0 (ak doc d [] s).2.length],.map (ac aa.str Tb.v M),.map (ac aa.str aa.bool (ak doc d [] s).1),.arr 5 ((ak doc d [] s).2.map Pb.v) 0,.box (Dc.cs d)]) kq zA),by simp [ai.belO,hpF,Ty.v,Ex.v,Ct.v,Co.v,Rf.v,Sm.v,Tb.v_cs,Sc.v,Md.v,Pb.v,Ls.v]⟩⟩
 · trivial
 iterate 5 kernel_rfl
 apply qm [14,15] (decide_eq_false hb1)
 apply qr 3
 refine qy (aw (l:=d.tab.key) (enc:=aa.str) kq b5) ?_ ?_ ?_
 apply qR 2 [(0,.ptr 0 0),(1,.str doc),(5,.ptr 4 0),(21,.bool (decide (((d.tab.key.length:Nat):Int) > 3)))] [.box [.imm (sums.map Sm.v),.map 1,.map 2,.own 3 0 s.2.length],.map (ac aa.str Tb.v M),.map (ac aa.str aa.bool s.1),.arr 5 (s.2.map Pb.v) 0,.box (Dc.cs d)]
 by_cases hb2:((d.tab.key.length:Nat):Int) > 3
 apply qt (decide_eq_true hb2)
 apply qo
 apply qr 3
 refine b7 (args:=[.ptr 0 0,.str doc,.agg (Dc.cs d),.full []]) (hs:=[.box [.imm (sums.map Sm.v),.map 1,.map 2,.own 3 0 s.2.length],.map (ac aa.str Tb.v M),.map (ac aa.str aa.bool s.1),.arr 5 (s.2.map Pb.v) 0]) (hs':=[.box [.imm (sums.map Sm.v),.map 1,.map 2,.own 3 0 (ak doc d [] s).2.length],.map (ac aa.str Tb.v M),.map (ac aa.str aa.bool (ak doc d [] s).1),.arr 5 ((ak doc d [] s).2.map Pb.v) 0]) (rest:=[.box (Dc.cs d)]) kq kq kq kq kq (bX sums M s doc d [] oq hd.n hd.a) di di rfl di di kq ?_
 apply qe
 refine ab ⟨(),?_,⟨⟨kq,kq,kq,trivial⟩,by simp [aG,aa.bel],by simp,(Eq.trans (b:=[.box [.imm (sums.map Sm.v),.map 1,.map 2,.own 3 0 (ak doc d [] s).2.length],.map (ac aa.str Tb.v M),.map (ac aa.str aa.bool (ak doc d [] s).1),.arr 5 ((ak doc d [] s).2.map Pb.v) 0,.box (Dc.cs d)]) kq zA),by simp [ai.belO,hpF,Ty.v,Ex.v,Ct.v,Co.v,Rf.v,Sm.v,Tb.v_cs,Sc.v,Md.v,Pb.v,Ls.v]⟩⟩
 · trivial
 iterate 4 kernel_rfl
 apply qf (decide_eq_false hb2)
 apply qk
 refine ab ⟨(),?_,⟨⟨kq,kq,kq,trivial⟩,by simp [aG,aa.bel],by simp,(Eq.trans (b:=[.box [.imm (sums.map Sm.v),.map 1,.map 2,.own 3 0 s.2.length],.map (ac aa.str Tb.v M),.map (ac aa.str aa.bool s.1),.arr 5 (s.2.map Pb.v) 0,.box (Dc.cs d)]) kq zA),by simp [ai.belO,hpF,Ty.v,Ex.v,Ct.v,Co.v,Rf.v,Sm.v,Tb.v_cs,Sc.v,Md.v,Pb.v,Ls.v]⟩⟩
 · trivial
 iterate 11 kernel_rfl
 rintro _ _
 apply qV 3
 refine qy (aw (l:=d.tab.key) (enc:=aa.str) kq b5) ?_ ?_ ?_
 apply qR 1 [(0,.ptr 0 0),(1,.str doc),(5,.ptr 4 0),(28,.imm (d.tab.key.map aa.str)),(29,nI d.tab.key.length),(30,.int .i64 0)] [.box [.imm (sums.map Sm.v),.map 1,.map 2,.own 3 0 (bif aj d.tab then ak doc d [] s else s).2.length],.map (ac aa.str Tb.v M),.map (ac aa.str aa.bool (bif aj d.tab then ak doc d [] s else s).1),.arr 5 ((bif aj d.tab then ak doc d [] s else s).2.map Pb.v) 0,.box (Dc.cs d)]
 apply qB 0
 refine bn (σ:=Nat) (fun k=>[(0,.ptr 0 0),(1,.str doc),(5,.ptr 4 0),(28,.imm (d.tab.key.map aa.str)),(29,.int .i64 ((d.tab.key.length:Nat):Int)),(30,.int .i64 ((k:Nat):Int))]) (fun k=>[.box [.imm (sums.map Sm.v),.map 1,.map 2,.own 3 0 (bo doc d k (bif aj d.tab then ak doc d [] s else s)).2.length],.map (ac aa.str Tb.v M),.map (ac aa.str aa.bool (bo doc d k (bif aj d.tab then ak doc d [] s else s)).1),.arr 5 ((bo doc d k (bif aj d.tab then ak doc d [] s else s)).2.map Pb.v) 0,.box (Dc.cs d)]) (fun k=>k≤d.tab.key.length) (fun k=>d.tab.key.length - k) 0 kq (by exact Nat.zero_le _) ⟨⟨kq,kq,kq,kq,kq,kq,trivial⟩,by simp [aG,aa.bel],by simp,kq,by simp [ai.belO,hpF,Ty.v,Ex.v,Ct.v,Co.v,Rf.v,Sm.v,Tb.v_cs,Sc.v,Md.v,Pb.v,Ls.v]⟩ ?_
 rintro k hk
 have hcl:=lA doc d (bif aj d.tab then ak doc d [] s else s) k
 apply qW 1 [(0,.ptr 0 0),(1,.str doc),(5,.ptr 4 0),(28,.imm (d.tab.key.map aa.str)),(29,nI d.tab.key.length),(30,nI k),(31,.bool (decide (((k:Nat):Int)<((d.tab.key.length:Nat):Int))))] [.box [.imm (sums.map Sm.v),.map 1,.map 2,.own 3 0 (bo doc d k (bif aj d.tab then ak doc d [] s else s)).2.length],.map (ac aa.str Tb.v M),.map (ac aa.str aa.bool (bo doc d k (bif aj d.tab then ak doc d [] s else s)).1),.arr 5 ((bo doc d k (bif aj d.tab then ak doc d [] s else s)).2.map Pb.v) 0,.box (Dc.cs d)]
 apply az
 by_cases hb3:((k:Nat):Int)<((d.tab.key.length:Nat):Int)
 apply qt (decide_eq_true hb3)
 apply qK
 apply qz [(0,.ptr 0 0),(1,.str doc),(5,.ptr 4 0),(28,.imm (d.tab.key.map aa.str)),(29,nI d.tab.key.length),(30,nI k)]
 apply az
 apply qB 1
 apply qV 1
 refine qy (aA (k:=.i64) (l:=d.tab.key) (enc:=aa.str) (i:=((k:Nat):Int)) [] kq b5 ty9 (fun _=>rfl) oq oq) ?_ ?_ ?_
 apply qR 3 [(0,.ptr 0 0),(1,.str doc),(5,.ptr 4 0),(6,nI k),(7,.str (d.tab.key.getD k [])),(28,.imm (d.tab.key.map aa.str)),(29,nI d.tab.key.length),(30,nI k)] [.box [.imm (sums.map Sm.v),.map 1,.map 2,.own 3 0 (bo doc d k (bif aj d.tab then ak doc d [] s else s)).2.length],.map (ac aa.str Tb.v M),.map (ac aa.str aa.bool (bo doc d k (bif aj d.tab then ak doc d [] s else s)).1),.arr 5 ((bo doc d k (bif aj d.tab then ak doc d [] s else s)).2.map Pb.v) 0,.box (Dc.cs d)]
 apply az
 apply qV 4
 refine bj (args:=[.imm (d.tab.cols.map Co.v),.fn (.func 121) [] [],.str (d.tab.key.getD k [])]) kq kq kq kq (fW d.tab.cols (d.tab.key.getD k []) oq) iY iY iY ?_
 apply qR 6 [(0,.ptr 0 0),(1,.str doc),(5,.ptr 4 0),(6,nI k),(7,.str (d.tab.key.getD k [])),(9,.bool (bc d.tab.cols (d.tab.key.getD k []))),(28,.imm (d.tab.key.map aa.str)),(29,nI d.tab.key.length),(30,nI k)] [.box [.imm (sums.map Sm.v),.map 1,.map 2,.own 3 0 (bo doc d k (bif aj d.tab then ak doc d [] s else s)).2.length],.map (ac aa.str Tb.v M),.map (ac aa.str aa.bool (bo doc d k (bif aj d.tab then ak doc d [] s else s)).1),.arr 5 ((bo doc d k (bif aj d.tab then ak doc d [] s else s)).2.map Pb.v) 0,.box (Dc.cs d),.box [.str (au d.tab.cols (d.tab.key.getD k [])).name,.int .i64 ((au d.tab.cols (d.tab.key.getD k [])).type.kind),.str (au d.tab.cols (d.tab.key.getD k [])).type.name,.int .i64 ((au d.tab.cols (d.tab.key.getD k [])).type.n),.imm ((au d.tab.cols (d.tab.key.getD k [])).type.names.map aa.str),.imm ((au d.tab.cols (d.tab.key.getD k [])).type.kids.map Ty.enc)]]
 apply qU 2 [(0,.ptr 0 0),(1,.str doc),(5,.ptr 4 0),(6,nI k),(7,.str (d.tab.key.getD k [])),(28,.imm (d.tab.key.map aa.str)),(29,nI d.tab.key.length),(30,nI k),(44,.bool (!(bc d.tab.cols (d.tab.key.getD k []))))]
 by_cases hb4:(bc d.tab.cols (d.tab.key.getD k []))=true
 refine qf (x:=(!(bc d.tab.cols (d.tab.key.getD k [])))) (congrArg not (hb4)) ?_ ?_
 apply qK
 apply qz [(0,.ptr 0 0),(1,.str doc),(5,.ptr 4 0),(6,nI k),(7,.str (d.tab.key.getD k [])),(28,.imm (d.tab.key.map aa.str)),(29,nI d.tab.key.length),(30,nI k)]
 apply qV 4
 refine qy (dj (lo:=none) (hi:=(some (.int .i64 ((k:Nat):Int)))) (l:=d.tab.key) (enc:=aa.str) (x:=0) (y:=((k:Nat):Int)) kq b5 ty9 (fun _=>rfl) kq kq oq oq oq) ?_ ?_ ?_
 apply qr 1
 refine bj (args:=[.imm ((d.tab.key.take k).map aa.str),.str (d.tab.key.getD k [])]) kq kq kq kq (gj (d.tab.key.take k) (d.tab.key.getD k []) (by simp;omega)) iY iY iY ?_
 apply qN [(0,.ptr 0 0),(1,.str doc),(5,.ptr 4 0),(7,.str (d.tab.key.getD k [])),(28,.imm (d.tab.key.map aa.str)),(29,nI d.tab.key.length),(30,nI k),(57,.bool ((d.tab.key.take k).contains (d.tab.key.getD k [])))] [.box [.imm (sums.map Sm.v),.map 1,.map 2,.own 3 0 (bo doc d k (bif aj d.tab then ak doc d [] s else s)).2.length],.map (ac aa.str Tb.v M),.map (ac aa.str aa.bool (bo doc d k (bif aj d.tab then ak doc d [] s else s)).1),.arr 5 ((bo doc d k (bif aj d.tab then ak doc d [] s else s)).2.map Pb.v) 0,.box (Dc.cs d),.box [.str (au d.tab.cols (d.tab.key.getD k [])).name,.int .i64 ((au d.tab.cols (d.tab.key.getD k [])).type.kind),.str (au d.tab.cols (d.tab.key.getD k [])).type.name,.int .i64 ((au d.tab.cols (d.tab.key.getD k [])).type.n),.imm ((au d.tab.cols (d.tab.key.getD k [])).type.names.map aa.str),.imm ((au d.tab.cols (d.tab.key.getD k [])).type.kids.map Ty.enc)]]
 by_cases hb5:((d.tab.key.take k).contains (d.tab.key.getD k []))=true
 apply qt (hb5)
 apply qo
 apply qr 5
 refine b7 (args:=[.ptr 0 0,.str doc,.agg (Dc.cs d),.full [.str (d.tab.key.getD k [])]]) (hs:=[.box [.imm (sums.map Sm.v),.map 1,.map 2,.own 3 0 (bo doc d k (bif aj d.tab then ak doc d [] s else s)).2.length],.map (ac aa.str Tb.v M),.map (ac aa.str aa.bool (bo doc d k (bif aj d.tab then ak doc d [] s else s)).1),.arr 5 ((bo doc d k (bif aj d.tab then ak doc d [] s else s)).2.map Pb.v) 0]) (hs':=[.box [.imm (sums.map Sm.v),.map 1,.map 2,.own 3 0 (ak doc d [(d.tab.key.getD k [])] (bo doc d k (bif aj d.tab then ak doc d [] s else s))).2.length],.map (ac aa.str Tb.v M),.map (ac aa.str aa.bool (ak doc d [(d.tab.key.getD k [])] (bo doc d k (bif aj d.tab then ak doc d [] s else s))).1),.arr 5 ((ak doc d [(d.tab.key.getD k [])] (bo doc d k (bif aj d.tab then ak doc d [] s else s))).2.map Pb.v) 0]) (rest:=[.box (Dc.cs d),.box [.str (au d.tab.cols (d.tab.key.getD k [])).name,.int .i64 ((au d.tab.cols (d.tab.key.getD k [])).type.kind),.str (au d.tab.cols (d.tab.key.getD k [])).type.name,.int .i64 ((au d.tab.cols (d.tab.key.getD k [])).type.n),.imm ((au d.tab.cols (d.tab.key.getD k [])).type.names.map aa.str),.imm ((au d.tab.cols (d.tab.key.getD k [])).type.kids.map Ty.enc)]]) kq kq kq kq kq (bX sums M (bo doc d k (bif aj d.tab then ak doc d [] s else s)) doc d [(d.tab.key.getD k [])] oq hd.n hd.a) di di rfl di di kq ?_
 apply qe
 apply ah
 apply ab
 apply qZ [(0,.ptr 0 0),(1,.str doc),(5,.ptr 4 0),(28,.imm (d.tab.key.map aa.str)),(29,nI d.tab.key.length),(30,nI k)] [.box [.imm (sums.map Sm.v),.map 1,.map 2,.own 3 0 (ak doc d [(d.tab.key.getD k [])] (bo doc d k (bif aj d.tab then ak doc d [] s else s))).2.length],.map (ac aa.str Tb.v M),.map (ac aa.str aa.bool (ak doc d [(d.tab.key.getD k [])] (bo doc d k (bif aj d.tab then ak doc d [] s else s))).1),.arr 5 ((ak doc d [(d.tab.key.getD k [])] (bo doc d k (bif aj d.tab then ak doc d [] s else s))).2.map Pb.v) 0,.box (Dc.cs d),.box [.str (au d.tab.cols (d.tab.key.getD k [])).name,.int .i64 ((au d.tab.cols (d.tab.key.getD k [])).type.kind),.str (au d.tab.cols (d.tab.key.getD k [])).type.name,.int .i64 ((au d.tab.cols (d.tab.key.getD k [])).type.n),.imm ((au d.tab.cols (d.tab.key.getD k [])).type.names.map aa.str),.imm ((au d.tab.cols (d.tab.key.getD k [])).type.kids.map Ty.enc)]]
 apply qo
 refine qy (aI (a:=((k:Nat):Int)) (b:=1) kq oq oq) ?_ ?_ ?_
 apply qr 1
 apply qe
 refine ab ⟨k+1,?_,?_,⟨⟨kq,kq,kq,kq,kq,kq,trivial⟩,by simp [aG,aa.bel],by simp,(Eq.trans (b:=[.box [.imm (sums.map Sm.v),.map 1,.map 2,.own 3 0 (ak doc d [(d.tab.key.getD k [])] (bo doc d k (bif aj d.tab then ak doc d [] s else s))).2.length],.map (ac aa.str Tb.v M),.map (ac aa.str aa.bool (ak doc d [(d.tab.key.getD k [])] (bo doc d k (bif aj d.tab then ak doc d [] s else s))).1),.arr 5 ((ak doc d [(d.tab.key.getD k [])] (bo doc d k (bif aj d.tab then ak doc d [] s else s))).2.map Pb.v) 0,.box (Dc.cs d)]) kq (by rw [nz (b:=true) (c:=true) aq aq];show _=_;kernel_rfl)),by simp [ai.belO,hpF,Ty.v,Ex.v,Ct.v,Co.v,Rf.v,Sm.v,Tb.v_cs,Sc.v,Md.v,Pb.v,Ls.v]⟩⟩
 · omega
 · omega
 iterate 10 kernel_rfl
 apply qf (Bool.eq_false_iff.2 hb5)
 apply qk
 apply ah
 apply ab
 apply qz [(0,.ptr 0 0),(1,.str doc),(5,.ptr 4 0),(28,.imm (d.tab.key.map aa.str)),(29,nI d.tab.key.length),(30,nI k)]
 apply qo
 refine qy (aI (a:=((k:Nat):Int)) (b:=1) kq oq oq) ?_ ?_ ?_
 apply qr 1
 apply qe
 refine ab ⟨k+1,?_,?_,⟨⟨kq,kq,kq,kq,kq,kq,trivial⟩,by simp [aG,aa.bel],by simp,(Eq.trans (b:=[.box [.imm (sums.map Sm.v),.map 1,.map 2,.own 3 0 (bo doc d k (bif aj d.tab then ak doc d [] s else s)).2.length],.map (ac aa.str Tb.v M),.map (ac aa.str aa.bool (bo doc d k (bif aj d.tab then ak doc d [] s else s)).1),.arr 5 ((bo doc d k (bif aj d.tab then ak doc d [] s else s)).2.map Pb.v) 0,.box (Dc.cs d)]) kq (by rw [nz (b:=true) (c:=false) aq (Bool.eq_false_iff.2 aq)];show _=_;kernel_rfl)),by simp [ai.belO,hpF,Ty.v,Ex.v,Ct.v,Co.v,Rf.v,Sm.v,Tb.v_cs,Sc.v,Md.v,Pb.v,Ls.v]⟩⟩
 · omega
 · omega
 iterate 16 kernel_rfl
 refine qt (x:=(!(bc d.tab.cols (d.tab.key.getD k [])))) (congrArg not (Bool.eq_false_iff.2 hb4)) ?_ ?_
 refine b6 cxM kq ap (aU ?_)
 apply qu 6
 refine qD (cP (o:=2) (ek:=aa.str) (ev:=aa.bool) (l:=(bo doc d k (bif aj d.tab then ak doc d [] s else s)).1) (k:=d.name) (x:=true) dV kq er ty9 rfl kq kq) ?_ ?_ ?_ ?_
 refine bG kq ⟨kq,?_⟩
 apply ab
 apply qZ [(0,.ptr 0 0),(1,.str doc),(5,.ptr 4 0),(6,nI k),(7,.str (d.tab.key.getD k [])),(28,.imm (d.tab.key.map aa.str)),(29,nI d.tab.key.length),(30,nI k)] [.box [.imm (sums.map Sm.v),.map 1,.map 2,.own 3 0 (bo doc d k (bif aj d.tab then ak doc d [] s else s)).2.length],.map (ac aa.str Tb.v M),.map (ac aa.str aa.bool (bh d.name true (bo doc d k (bif aj d.tab then ak doc d [] s else s)).1)),.arr 5 ((bo doc d k (bif aj d.tab then ak doc d [] s else s)).2.map Pb.v) 0,.box (Dc.cs d),.box [.str (au d.tab.cols (d.tab.key.getD k [])).name,.int .i64 ((au d.tab.cols (d.tab.key.getD k [])).type.kind),.str (au d.tab.cols (d.tab.key.getD k [])).type.name,.int .i64 ((au d.tab.cols (d.tab.key.getD k [])).type.n),.imm ((au d.tab.cols (d.tab.key.getD k [])).type.names.map aa.str),.imm ((au d.tab.cols (d.tab.key.getD k [])).type.kids.map Ty.enc)]]
 apply qZ [(0,.ptr 0 0),(1,.str doc),(5,.ptr 4 0),(6,nI k),(7,.str (d.tab.key.getD k [])),(28,.imm (d.tab.key.map aa.str)),(29,nI d.tab.key.length),(30,nI k)] [.box [.imm (sums.map Sm.v),.map 1,.map 2,.own 3 0 (aV d.name (bo doc d k (bif aj d.tab then ak doc d [] s else s))).2.length],.map (ac aa.str Tb.v M),.map (ac aa.str aa.bool (aV d.name (bo doc d k (bif aj d.tab then ak doc d [] s else s))).1),.arr 5 ((aV d.name (bo doc d k (bif aj d.tab then ak doc d [] s else s))).2.map Pb.v) 0,.box (Dc.cs d),.box [.str (au d.tab.cols (d.tab.key.getD k [])).name,.int .i64 ((au d.tab.cols (d.tab.key.getD k [])).type.kind),.str (au d.tab.cols (d.tab.key.getD k [])).type.name,.int .i64 ((au d.tab.cols (d.tab.key.getD k [])).type.n),.imm ((au d.tab.cols (d.tab.key.getD k [])).type.names.map aa.str),.imm ((au d.tab.cols (d.tab.key.getD k [])).type.kids.map Ty.enc)]]
 apply qV 4
 refine qy (dj (lo:=none) (hi:=(some (.int .i64 ((k:Nat):Int)))) (l:=d.tab.key) (enc:=aa.str) (x:=0) (y:=((k:Nat):Int)) kq b5 ty9 (fun _=>rfl) kq kq oq oq oq) ?_ ?_ ?_
 apply qr 1
 refine bj (args:=[.imm ((d.tab.key.take k).map aa.str),.str (d.tab.key.getD k [])]) kq kq kq kq (gj (d.tab.key.take k) (d.tab.key.getD k []) (by simp;omega)) iY iY iY ?_
 apply qN [(0,.ptr 0 0),(1,.str doc),(5,.ptr 4 0),(7,.str (d.tab.key.getD k [])),(28,.imm (d.tab.key.map aa.str)),(29,nI d.tab.key.length),(30,nI k),(57,.bool ((d.tab.key.take k).contains (d.tab.key.getD k [])))] [.box [.imm (sums.map Sm.v),.map 1,.map 2,.own 3 0 (aV d.name (bo doc d k (bif aj d.tab then ak doc d [] s else s))).2.length],.map (ac aa.str Tb.v M),.map (ac aa.str aa.bool (aV d.name (bo doc d k (bif aj d.tab then ak doc d [] s else s))).1),.arr 5 ((aV d.name (bo doc d k (bif aj d.tab then ak doc d [] s else s))).2.map Pb.v) 0,.box (Dc.cs d),.box [.str (au d.tab.cols (d.tab.key.getD k [])).name,.int .i64 ((au d.tab.cols (d.tab.key.getD k [])).type.kind),.str (au d.tab.cols (d.tab.key.getD k [])).type.name,.int .i64 ((au d.tab.cols (d.tab.key.getD k [])).type.n),.imm ((au d.tab.cols (d.tab.key.getD k [])).type.names.map aa.str),.imm ((au d.tab.cols (d.tab.key.getD k [])).type.kids.map Ty.enc)]]
 by_cases hb6:((d.tab.key.take k).contains (d.tab.key.getD k []))=true
 apply qt (hb6)
 apply qo
 apply qr 5
 refine b7 (args:=[.ptr 0 0,.str doc,.agg (Dc.cs d),.full [.str (d.tab.key.getD k [])]]) (hs:=[.box [.imm (sums.map Sm.v),.map 1,.map 2,.own 3 0 (aV d.name (bo doc d k (bif aj d.tab then ak doc d [] s else s))).2.length],.map (ac aa.str Tb.v M),.map (ac aa.str aa.bool (aV d.name (bo doc d k (bif aj d.tab then ak doc d [] s else s))).1),.arr 5 ((aV d.name (bo doc d k (bif aj d.tab then ak doc d [] s else s))).2.map Pb.v) 0]) (hs':=[.box [.imm (sums.map Sm.v),.map 1,.map 2,.own 3 0 (ak doc d [(d.tab.key.getD k [])] (aV d.name (bo doc d k (bif aj d.tab then ak doc d [] s else s)))).2.length],.map (ac aa.str Tb.v M),.map (ac aa.str aa.bool (ak doc d [(d.tab.key.getD k [])] (aV d.name (bo doc d k (bif aj d.tab then ak doc d [] s else s)))).1),.arr 5 ((ak doc d [(d.tab.key.getD k [])] (aV d.name (bo doc d k (bif aj d.tab then ak doc d [] s else s)))).2.map Pb.v) 0]) (rest:=[.box (Dc.cs d),.box [.str (au d.tab.cols (d.tab.key.getD k [])).name,.int .i64 ((au d.tab.cols (d.tab.key.getD k [])).type.kind),.str (au d.tab.cols (d.tab.key.getD k [])).type.name,.int .i64 ((au d.tab.cols (d.tab.key.getD k [])).type.n),.imm ((au d.tab.cols (d.tab.key.getD k [])).type.names.map aa.str),.imm ((au d.tab.cols (d.tab.key.getD k [])).type.kids.map Ty.enc)]]) kq kq kq kq kq (bX sums M (aV d.name (bo doc d k (bif aj d.tab then ak doc d [] s else s))) doc d [(d.tab.key.getD k [])] (by simp only [aV,bP];omega) hd.n hd.a) di di rfl di di kq ?_
 apply qe
 apply ah
 apply ab
 apply qZ [(0,.ptr 0 0),(1,.str doc),(5,.ptr 4 0),(28,.imm (d.tab.key.map aa.str)),(29,nI d.tab.key.length),(30,nI k)] [.box [.imm (sums.map Sm.v),.map 1,.map 2,.own 3 0 (ak doc d [(d.tab.key.getD k [])] (aV d.name (bo doc d k (bif aj d.tab then ak doc d [] s else s)))).2.length],.map (ac aa.str Tb.v M),.map (ac aa.str aa.bool (ak doc d [(d.tab.key.getD k [])] (aV d.name (bo doc d k (bif aj d.tab then ak doc d [] s else s)))).1),.arr 5 ((ak doc d [(d.tab.key.getD k [])] (aV d.name (bo doc d k (bif aj d.tab then ak doc d [] s else s)))).2.map Pb.v) 0,.box (Dc.cs d),.box [.str (au d.tab.cols (d.tab.key.getD k [])).name,.int .i64 ((au d.tab.cols (d.tab.key.getD k [])).type.kind),.str (au d.tab.cols (d.tab.key.getD k [])).type.name,.int .i64 ((au d.tab.cols (d.tab.key.getD k [])).type.n),.imm ((au d.tab.cols (d.tab.key.getD k [])).type.names.map aa.str),.imm ((au d.tab.cols (d.tab.key.getD k [])).type.kids.map Ty.enc)]]
 apply qo
 refine qy (aI (a:=((k:Nat):Int)) (b:=1) kq oq oq) ?_ ?_ ?_
 apply qr 1
 apply qe
 refine ab ⟨k+1,?_,?_,⟨⟨kq,kq,kq,kq,kq,kq,trivial⟩,by simp [aG,aa.bel],by simp,(Eq.trans (b:=[.box [.imm (sums.map Sm.v),.map 1,.map 2,.own 3 0 (ak doc d [(d.tab.key.getD k [])] (aV d.name (bo doc d k (bif aj d.tab then ak doc d [] s else s)))).2.length],.map (ac aa.str Tb.v M),.map (ac aa.str aa.bool (ak doc d [(d.tab.key.getD k [])] (aV d.name (bo doc d k (bif aj d.tab then ak doc d [] s else s)))).1),.arr 5 ((ak doc d [(d.tab.key.getD k [])] (aV d.name (bo doc d k (bif aj d.tab then ak doc d [] s else s)))).2.map Pb.v) 0,.box (Dc.cs d)]) kq (by rw [nz (b:=false) (c:=true) (Bool.eq_false_iff.2 aq) aq];show _=_;kernel_rfl)),by simp [ai.belO,hpF,Ty.v,Ex.v,Ct.v,Co.v,Rf.v,Sm.v,Tb.v_cs,Sc.v,Md.v,Pb.v,Ls.v]⟩⟩
 · omega
 · omega
 iterate 10 kernel_rfl
 apply qf (Bool.eq_false_iff.2 hb6)
 apply qk
 apply ah
 apply ab
 apply qz [(0,.ptr 0 0),(1,.str doc),(5,.ptr 4 0),(28,.imm (d.tab.key.map aa.str)),(29,nI d.tab.key.length),(30,nI k)]
 apply qo
 refine qy (aI (a:=((k:Nat):Int)) (b:=1) kq oq oq) ?_ ?_ ?_
 apply qr 1
 apply qe
 refine ab ⟨k+1,?_,?_,⟨⟨kq,kq,kq,kq,kq,kq,trivial⟩,by simp [aG,aa.bel],by simp,(Eq.trans (b:=[.box [.imm (sums.map Sm.v),.map 1,.map 2,.own 3 0 (aV d.name (bo doc d k (bif aj d.tab then ak doc d [] s else s))).2.length],.map (ac aa.str Tb.v M),.map (ac aa.str aa.bool (aV d.name (bo doc d k (bif aj d.tab then ak doc d [] s else s))).1),.arr 5 ((aV d.name (bo doc d k (bif aj d.tab then ak doc d [] s else s))).2.map Pb.v) 0,.box (Dc.cs d)]) kq (by rw [nz (b:=false) (c:=false) (Bool.eq_false_iff.2 aq) (Bool.eq_false_iff.2 aq)];show _=_;kernel_rfl)),by simp [ai.belO,hpF,Ty.v,Ex.v,Ct.v,Co.v,Rf.v,Sm.v,Tb.v_cs,Sc.v,Md.v,Pb.v,Ls.v]⟩⟩
 · omega
 · omega
 iterate 34 kernel_rfl
 apply qf (decide_eq_false hb3)
 refine a6 0 kq kq ?_
 apply af
 apply af
 apply aE
 refine dg (l:=[]) (.inl rfl) kq (by rfl) (by simp [a8]) (by simp [a8]) ?_ ?_
 refine Eq.trans (b:=[.box [.imm (sums.map Sm.v),.map 1,.map 2,.own 3 0 (bo doc d k (bif aj d.tab then ak doc d [] s else s)).2.length],.map (ac aa.str Tb.v M),.map (ac aa.str aa.bool (bo doc d k (bif aj d.tab then ak doc d [] s else s)).1),.arr 5 ((bo doc d k (bif aj d.tab then ak doc d [] s else s)).2.map Pb.v) 0]) kq ?_
 · have e:k=d.tab.key.length:=by omega
   subst e;rfl
 · simp [ai.belO,hpF,Ty.v,Ex.v,Ct.v,Co.v,Rf.v,Sm.v,Tb.v_cs,Sc.v,Md.v,Pb.v,Ls.v]
 iterate 11 kernel_rfl
end Go.Proofs.YtcpklndelobigaaGreatDoor
