/- Declarations, modules and problems as the layer has them; what reports a problem. Conditions: sizes that can be had. -/
import Derived.Test.YtcpklndelobigaaGreatDoorCE
import Derived.Test.YtcpklndelobigaaGreatDoorE3
import Derived.Test.YtcpklndelobigaaGreatDoorAbsg
set_option linter.all false
namespace Go.Proofs.YtcpklndelobigaaGreatDoor
open Go.Proofs.YtcpklndelobigaaGreatDoor.Abs
set_option maxRecDepth 20000
set_option maxHeartbeats 4000000
def Tb.cs (t:Tb):List aa:=[.str t.name,.imm (t.cols.map Co.v),.imm (t.key.map aa.str),.imm (t.refs.map Rf.v),.int .i64 (t.chk.kind),.str t.chk.name,.int .i64 (t.chk.n),.str t.chk.s,.imm (t.chk.names.map aa.str),.imm (t.chk.binds.map aa.str),.imm (t.chk.kids.map Ex.enc),.int .i64 (t.chk.pos),.int .i64 (t.chk.fin)]
def Dc.cs (d:Dc):List aa:=[.int .i64 (d.kind),.str d.name,.str d.sum.name,.imm (d.sum.ctors.map Ct.v),.str d.tab.name,.imm (d.tab.cols.map Co.v),.imm (d.tab.key.map aa.str),.imm (d.tab.refs.map Rf.v),.int .i64 (d.tab.chk.kind),.str d.tab.chk.name,.int .i64 (d.tab.chk.n),.str d.tab.chk.s,.imm (d.tab.chk.names.map aa.str),.imm (d.tab.chk.binds.map aa.str),.imm (d.tab.chk.kids.map Ex.enc),.int .i64 (d.tab.chk.pos),.int .i64 (d.tab.chk.fin),.imm [],.bool false,.int .i64 0,.str [],.int .i64 0,.imm [],.imm [],.int .i64 0,.str [],.int .i64 0,.str [],.imm [],.imm [],.imm [],.int .i64 0,.int .i64 0,.imm [],.int .i64 (d.na),.int .i64 (d.pos),.int .i64 (d.fin)]
def Dc.v (d:Dc):aa:=.agg d.cs
def Md.v (m:Md):aa:=.agg [.str m.name,.imm (m.decls.map Dc.v)]
def Pb.v (p:Pb):aa:=.agg [.str p.doc,.int .i64 (p.pos),.int .i64 (p.fin),.int .i64 (p.code),.imm (p.names.map aa.str)]
def Ls.v (l:List (List UInt8)):aa:=.imm (l.map .str)
theorem Tb.v_cs (t:Tb):t.v=.agg t.cs:=rfl
theorem aB (k:Nat):∀ (a b:List aa),av k (a++b)=(av k a && av k b)
 | [],b=>rfl
 | x::a,b=>by simp only [List.cons_append,av,aB k a b,Bool.and_assoc]
theorem fA:∀ (a b:List aa),aO (a++b)=aO a++aO b
 | [],b=>rfl
 | x::a,b=>by simp only [List.cons_append,aO,fA a b,List.append_assoc]
@[simp] theorem Tb.cs_bel (k:Nat) (t:Tb):av k t.cs=true:=by simp [Tb.cs,av,aa.bel]
@[simp] theorem Tb.cs_frz (h:ae) (t:Tb):aZ h t.cs=t.cs:=by simp [Tb.cs,aZ,aa.frz]
@[simp] theorem Tb.cs_owns (t:Tb):aO t.cs=[]:=by simp [Tb.cs,aO,aa.owns]
@[simp] theorem Dc.cs_bel (k:Nat) (t:Dc):av k t.cs=true:=by simp [Dc.cs,av,aa.bel]
@[simp] theorem Dc.cs_frz (h:ae) (t:Dc):aZ h t.cs=t.cs:=by simp [Dc.cs,aZ,aa.frz]
@[simp] theorem Dc.cs_owns (t:Dc):aO t.cs=[]:=by simp [Dc.cs,aO,aa.owns]
@[simp] theorem Dc.frz_v (h:ae) (c:Dc):c.v.frz h=c.v:=by simp [Dc.v,aa.frz]
@[simp] theorem Dc.bel_v (k:Nat) (c:Dc):c.v.bel k=true:=by simp [Dc.v,aa.bel]
@[simp] theorem Dc.owns_v (c:Dc):c.v.owns=[]:=by simp [Dc.v,aa.owns]
@[simp] theorem Ba (h:ae) (l:List (Dc)):aZ h (l.map Dc.v)=l.map Dc.v:=aY h (Dc.frz_v h) l
@[simp] theorem Br (k:Nat) (l:List (Dc)):av k (l.map Dc.v)=true:=bU k (Dc.bel_v k) l
@[simp] theorem At (l:List (Dc)):aO (l.map Dc.v)=[]:=bI Dc.owns_v l
@[simp] theorem Md.frz_v (h:ae) (c:Md):c.v.frz h=c.v:=by simp [Md.v,aa.frz,aZ,aY _ (Dc.frz_v _),bU _ (Dc.bel_v _),bI Dc.owns_v]
@[simp] theorem Md.bel_v (k:Nat) (c:Md):c.v.bel k=true:=by simp [Md.v,aa.bel,av,aY _ (Dc.frz_v _),bU _ (Dc.bel_v _),bI Dc.owns_v]
@[simp] theorem Md.owns_v (c:Md):c.v.owns=[]:=by simp [Md.v,aa.owns,aO,aY _ (Dc.frz_v _),bU _ (Dc.bel_v _),bI Dc.owns_v]
@[simp] theorem Bf (h:ae) (l:List (Md)):aZ h (l.map Md.v)=l.map Md.v:=aY h (Md.frz_v h) l
@[simp] theorem oO (k:Nat) (l:List (Md)):av k (l.map Md.v)=true:=bU k (Md.bel_v k) l
@[simp] theorem Az (l:List (Md)):aO (l.map Md.v)=[]:=bI Md.owns_v l
@[simp] theorem Pb.frz_v (h:ae) (c:Pb):c.v.frz h=c.v:=by simp [Pb.v,aa.frz,aZ]
@[simp] theorem Pb.bel_v (k:Nat) (c:Pb):c.v.bel k=true:=by simp [Pb.v,aa.bel,av]
@[simp] theorem Pb.owns_v (c:Pb):c.v.owns=[]:=by simp [Pb.v,aa.owns,aO]
@[simp] theorem Bz (h:ae) (l:List (Pb)):aZ h (l.map Pb.v)=l.map Pb.v:=aY h (Pb.frz_v h) l
@[simp] theorem qh (k:Nat) (l:List (Pb)):av k (l.map Pb.v)=true:=bU k (Pb.bel_v k) l
@[simp] theorem Aw (l:List (Pb)):aO (l.map Pb.v)=[]:=bI Pb.owns_v l
@[simp] theorem Ls.frz_v (h:ae) (c:List (List UInt8)):(Ls.v c).frz h=(Ls.v c):=by simp [Ls.v,aa.frz,aZ]
@[simp] theorem Ls.bel_v (k:Nat) (c:List (List UInt8)):(Ls.v c).bel k=true:=by simp [Ls.v,aa.bel,av]
@[simp] theorem Ls.owns_v (c:List (List UInt8)):(Ls.v c).owns=[]:=by simp [Ls.v,aa.owns,aO]
@[simp] theorem oZ (h:ae) (l:List (List (List UInt8))):aZ h (l.map Ls.v)=l.map Ls.v:=aY h (Ls.frz_v h) l
@[simp] theorem B1 (k:Nat) (l:List (List (List UInt8))):av k (l.map Ls.v)=true:=bU k (Ls.bel_v k) l
@[simp] theorem AB (l:List (List (List UInt8))):aO (l.map Ls.v)=[]:=bI Ls.owns_v l
theorem eR (c:Dc):(Dc.v c).cells=c.cs:=rfl
theorem dh (c:Md):(Md.v c).cells=[.str c.name,.imm (c.decls.map Dc.v)]:=rfl
theorem dn (c:Pb):(Pb.v c).cells=[.str c.doc,.int .i64 (c.pos),.int .i64 (c.fin),.int .i64 (c.code),.imm (c.names.map aa.str)]:=rfl
theorem uX (c:List (List UInt8)):(Ls.v c).cells=[.imm (c.map aa.str)]:=rfl
@[simp] theorem CF (k:Nat) (l:List (List UInt8×Bool)):((ac aa.str aa.bool l).all fun e=>e.1.bel k && e.2.bel k)=true:=by
 simp [ac,aa.bel,List.all_eq_true]
@[simp] theorem CD (k:Nat) (l:Tm_):((ac aa.str Tb.v l).all fun e=>e.1.bel k && e.2.bel k)=true:=by
 simp [ac,aa.bel,List.all_eq_true]
def hpF (sums:List Sm) (M:Tm_) (s:BP):ae:=[.box [.imm (sums.map Sm.v),.map 1,.map 2,.own 3 0 s.2.length],.map (ac aa.str Tb.v M),.map (ac aa.str aa.bool s.1),.arr 5 (s.2.map Pb.v) 0]
noncomputable def c25:Code:=aT Tryz.f25
theorem rY (sums:List Sm) (M:Tm_) (s:BP) (doc:List UInt8) (d:Dc) (w:List (List UInt8)) (hb:s.2.length<1000000) (hn:d.name.length<1000000000) (hna:-1000000000000≤d.na∧d.na≤1000000000000):aL cx 25 [.ptr 0 0,.str doc,Dc.v d,.imm (w.map aa.str)] (hpF sums M s) (fun v h=>v=(.tup [])∧h=hpF sums M (ak doc d w s)):=by
 refine aC (cx:=cx) 34 4 [] Tryz.func25 rfl rfl rfl rfl rfl zq ?_
 show wpA cx 34 4 (at_ c25 []) _ _ _
 refine qZ [(0,.ptr 0 0),(1,.str doc),(2,Dc.v d),(3,.imm (w.map aa.str))] [.box [.imm (sums.map Sm.v),.map 1,.map 2,.own 3 0 s.2.length],.map (ac aa.str Tb.v M),.map (ac aa.str aa.bool s.1),.arr 5 (s.2.map Pb.v) 0] ?_ ?_
 refine qW 1 [(0,.ptr 0 0),(1,.str doc),(3,.imm (w.map aa.str)),(6,.ptr 4 0)] [.box [.imm (sums.map Sm.v),.map 1,.map 2,.own 3 0 s.2.length],.map (ac aa.str Tb.v M),.map (ac aa.str aa.bool s.1),.arr 5 (s.2.map Pb.v) 0,.box (Dc.cs d)] ?_ ?_
 refine az ?_ ?_
 refine b6 cxM kq ap (aU ?_)
 refine qu 6 ?_ ?_
 refine qD (cP (o:=2) (ek:=aa.str) (ev:=aa.bool) (l:=s.1) (k:=d.name) (x:=true) dV kq er ty9 rfl kq kq) ?_ ?_ ?_ ?_
 refine bG kq ⟨kq,?_⟩
 refine ab ?_
 refine qZ [(0,.ptr 0 0),(1,.str doc),(3,.imm (w.map aa.str)),(6,.ptr 4 0)] [.box [.imm (sums.map Sm.v),.map 1,.map 2,.own 3 0 s.2.length],.map (ac aa.str Tb.v M),.map (ac aa.str aa.bool (bh d.name true s.1)),.arr 5 (s.2.map Pb.v) 0,.box (Dc.cs d)] ?_ ?_
 refine b6 cxM kq rM (aU ?_)
 refine qu 13 ?_ ?_
 refine qd (aI (a:=(d.na)) (b:=((d.name.length:Nat):Int)) kq oq oq) ?_ ?_ ?_ ?_
 refine qu 3 ?_ ?_
 refine qD (cw (o:=3) (len:=s.2.length) (l:=s.2) (xs:=[(Pb.mk doc (d.na) ((d.na)+((d.name.length:Nat):Int)) 8 w)]) (enc:=Pb.v) (sz:=5) (fr:=0) (x:=(.full [.agg [.str doc,.int .i64 (d.na),.int .i64 ((d.na)+((d.name.length:Nat):Int)),.int .i64 8,.imm (w.map aa.str)]])) kq gY kO gY rfl kq rfl rfl kq ⟨by decide,by kernel_rfl⟩ (fun _=>rfl) (by simp;omega) (by simp;omega)) ?_ ?_ ?_ ?_
 refine qu 3 ?_ ?_
 refine bG kq ⟨kq,?_⟩
 refine dg (l:=[]) (.inl rfl) kq (by rfl) (by simp [a8]) (by simp [a8]) ?_ ?_
 refine Eq.trans (b:=[.box [.imm (sums.map Sm.v),.map 1,.map 2,.own 3 0 (s.2++[(Pb.mk doc (d.na) ((d.na)+((d.name.length:Nat):Int)) 8 w)]).length],.map (ac aa.str Tb.v M),.map (ac aa.str aa.bool (bh d.name true s.1)),.arr 5 ((s.2++[(Pb.mk doc (d.na) ((d.na)+((d.name.length:Nat):Int)) 8 w)]).map Pb.v) 0]) kq ?_
 · simp [hpF,ak,bg,cS]
 · simp [ai.belO,hpF,ak,aB,av]
 iterate 17 kernel_rfl
end Go.Proofs.YtcpklndelobigaaGreatDoor
