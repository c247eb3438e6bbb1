/- Declarations, modules and problems as the layer has them; what reports a problem. Conditions: sizes that can be had. -/
import Derived.Test.YtcpklndelobigaaGreatDoorE1
set_option linter.all false
namespace Go.Proofs.YtcpklndelobigaaGreatDoor
open Go.Proofs.YtcpklndelobigaaGreatDoor.Abs
set_option maxRecDepth 20000
set_option maxHeartbeats 4000000
def Tb.cs (t:Tb):List aa:=[.str t.name,.imm (t.cols.map Co.v),.imm (t.key.map aa.str),.imm (t.refs.map Rf.v),.int .i64 (t.chk.kind),.str t.chk.name,.int .i64 (t.chk.n),.str t.chk.s,.imm (t.chk.names.map aa.str),.imm (t.chk.binds.map aa.str),.imm (t.chk.kids.map Ex.enc),.int .i64 (t.chk.pos),.int .i64 (t.chk.fin)]
def Dc.cs (d:Dc):List aa:=[.int .i64 (d.kind),.str d.name,.str d.sum.name,.imm (d.sum.ctors.map Ct.v),.str d.tab.name,.imm (d.tab.cols.map Co.v),.imm (d.tab.key.map aa.str),.imm (d.tab.refs.map Rf.v),.int .i64 (d.tab.chk.kind),.str d.tab.chk.name,.int .i64 (d.tab.chk.n),.str d.tab.chk.s,.imm (d.tab.chk.names.map aa.str),.imm (d.tab.chk.binds.map aa.str),.imm (d.tab.chk.kids.map Ex.enc),.int .i64 (d.tab.chk.pos),.int .i64 (d.tab.chk.fin),.imm [],.bool false,.int .i64 0,.str [],.int .i64 0,.imm [],.imm [],.int .i64 0,.str [],.int .i64 0,.str [],.imm [],.imm [],.imm [],.int .i64 0,.int .i64 0,.imm [],.int .i64 (d.na),.int .i64 (d.pos),.int .i64 (d.fin)]
def Dc.v (d:Dc):aa:=.agg d.cs
def Md.v (m:Md):aa:=.agg [.str m.name,.imm (m.decls.map Dc.v)]
def Pb.v (p:Pb):aa:=.agg [.str p.doc,.int .i64 (p.pos),.int .i64 (p.fin),.int .i64 (p.code),.imm (p.names.map aa.str)]
def Ls.v (l:List (List UInt8)):aa:=.imm (l.map .str)
theorem Tb.v_cs (t:Tb):t.v=.agg t.cs:=rfl
theorem dW (k:Nat):∀ (a b:List aa),aM k (a++b)=(aM k a && aM k b)
 | [],b=>rfl
 | x::a,b=>by simp only [List.cons_append,aM,dW k a b,Bool.and_assoc]
theorem eZ:∀ (a b:List aa),aG (a++b)=aG a++aG b
 | [],b=>rfl
 | x::a,b=>by simp only [List.cons_append,aG,eZ a b,List.append_assoc]
@[simp] theorem Tb.cs_bel (k:Nat) (t:Tb):aM k t.cs=true:=by simp [Tb.cs,aM,aa.bel]
@[simp] theorem Tb.cs_frz (h:ae) (t:Tb):aQ h t.cs=t.cs:=by simp [Tb.cs,aQ,aa.frz]
@[simp] theorem Tb.cs_owns (t:Tb):aG t.cs=[]:=by simp [Tb.cs,aG,aa.owns]
@[simp] theorem Dc.cs_bel (k:Nat) (t:Dc):aM k t.cs=true:=by simp [Dc.cs,aM,aa.bel]
@[simp] theorem Dc.cs_frz (h:ae) (t:Dc):aQ h t.cs=t.cs:=by simp [Dc.cs,aQ,aa.frz]
@[simp] theorem Dc.cs_owns (t:Dc):aG t.cs=[]:=by simp [Dc.cs,aG,aa.owns]
@[simp] theorem Dc.frz_v (h:ae) (c:Dc):c.v.frz h=c.v:=by simp [Dc.v,aa.frz]
@[simp] theorem Dc.bel_v (k:Nat) (c:Dc):c.v.bel k=true:=by simp [Dc.v,aa.bel]
@[simp] theorem Dc.owns_v (c:Dc):c.v.owns=[]:=by simp [Dc.v,aa.owns]
@[simp] theorem Nf (h:ae) (l:List (Dc)):aQ h (l.map Dc.v)=l.map Dc.v:=a7 h (Dc.frz_v h) l
@[simp] theorem Nm (k:Nat) (l:List (Dc)):aM k (l.map Dc.v)=true:=ch k (Dc.bel_v k) l
@[simp] theorem MK (l:List (Dc)):aG (l.map Dc.v)=[]:=b4 Dc.owns_v l
@[simp] theorem Md.frz_v (h:ae) (c:Md):c.v.frz h=c.v:=by simp [Md.v,aa.frz,aQ,a7 _ (Dc.frz_v _),ch _ (Dc.bel_v _),b4 Dc.owns_v]
@[simp] theorem Md.bel_v (k:Nat) (c:Md):c.v.bel k=true:=by simp [Md.v,aa.bel,aM,a7 _ (Dc.frz_v _),ch _ (Dc.bel_v _),b4 Dc.owns_v]
@[simp] theorem Md.owns_v (c:Md):c.v.owns=[]:=by simp [Md.v,aa.owns,aG,a7 _ (Dc.frz_v _),ch _ (Dc.bel_v _),b4 Dc.owns_v]
@[simp] theorem PI (h:ae) (l:List (Md)):aQ h (l.map Md.v)=l.map Md.v:=a7 h (Md.frz_v h) l
@[simp] theorem xu (k:Nat) (l:List (Md)):aM k (l.map Md.v)=true:=ch k (Md.bel_v k) l
@[simp] theorem MX (l:List (Md)):aG (l.map Md.v)=[]:=b4 Md.owns_v l
@[simp] theorem Pb.frz_v (h:ae) (c:Pb):c.v.frz h=c.v:=by simp [Pb.v,aa.frz,aQ]
@[simp] theorem Pb.bel_v (k:Nat) (c:Pb):c.v.bel k=true:=by simp [Pb.v,aa.bel,aM]
@[simp] theorem Pb.owns_v (c:Pb):c.v.owns=[]:=by simp [Pb.v,aa.owns,aG]
@[simp] theorem Oq (h:ae) (l:List (Pb)):aQ h (l.map Pb.v)=l.map Pb.v:=a7 h (Pb.frz_v h) l
@[simp] theorem xe (k:Nat) (l:List (Pb)):aM k (l.map Pb.v)=true:=ch k (Pb.bel_v k) l
@[simp] theorem MP (l:List (Pb)):aG (l.map Pb.v)=[]:=b4 Pb.owns_v l
@[simp] theorem Ls.frz_v (h:ae) (c:List (List UInt8)):(Ls.v c).frz h=(Ls.v c):=by simp [Ls.v,aa.frz,aQ]
@[simp] theorem Ls.bel_v (k:Nat) (c:List (List UInt8)):(Ls.v c).bel k=true:=by simp [Ls.v,aa.bel,aM]
@[simp] theorem Ls.owns_v (c:List (List UInt8)):(Ls.v c).owns=[]:=by simp [Ls.v,aa.owns,aG]
@[simp] theorem E1 (h:ae) (l:List (List (List UInt8))):aQ h (l.map Ls.v)=l.map Ls.v:=a7 h (Ls.frz_v h) l
@[simp] theorem NG (k:Nat) (l:List (List (List UInt8))):aM k (l.map Ls.v)=true:=ch k (Ls.bel_v k) l
@[simp] theorem MM (l:List (List (List UInt8))):aG (l.map Ls.v)=[]:=b4 Ls.owns_v l
theorem ij (c:Dc):(Dc.v c).cells=c.cs:=rfl
theorem eD (c:Md):(Md.v c).cells=[.str c.name,.imm (c.decls.map Dc.v)]:=rfl
theorem FB (c:Pb):(Pb.v c).cells=[.str c.doc,.int .i64 (c.pos),.int .i64 (c.fin),.int .i64 (c.code),.imm (c.names.map aa.str)]:=rfl
theorem Gc (c:List (List UInt8)):(Ls.v c).cells=[.imm (c.map aa.str)]:=rfl
@[simp] theorem PV (k:Nat) (l:List (List UInt8×Bool)):((ak aa.str aa.bool l).all fun e=>e.1.bel k && e.2.bel k)=true:=by
 simp [ak,aa.bel,List.all_eq_true]
@[simp] theorem PY (k:Nat) (l:Tm_):((ak aa.str Tb.v l).all fun e=>e.1.bel k && e.2.bel k)=true:=by
 simp [ak,aa.bel,List.all_eq_true]
def hpF (Z:List Sm) (M:Tm_) (s:BP):ae:=[.box [.imm (Z.map Sm.v),.map 1,.map 2,.own 3 0 s.2.length],.map (ak aa.str Tb.v M),.map (ak aa.str aa.bool s.1),.arr 5 (s.2.map Pb.v) 0]
noncomputable def c25:Code:=aF Tryz.f25
theorem zu (Z:List Sm) (M:Tm_) (s:BP) (doc:List UInt8) (d:Dc) (w:List (List UInt8)) (hb:s.2.length<1000000) (hn:d.name.length<1000000000) (hna:-1000000000000<=d.na/\d.na<=1000000000000):aE cx 25 [.ptr 0 0,.str doc,Dc.v d,.imm (w.map aa.str)] (hpF Z M s) (fun v h=>v=(.tup [])/\h=hpF Z M (bH doc d w s)):=by
 refine am (cx:=cx) 34 4 [] Tryz.func25 rfl rfl rfl rfl rfl zq ?_;show wpA cx 34 4 (at_ c25 []) _ _ _;refine zZ (fun _=>[(0,.ptr 0 0),(1,.str doc),(2,Dc.v d),(3,.imm (w.map aa.str))]) (fun _=>[.box [.imm (Z.map Sm.v),.map 1,.map 2,.own 3 0 s.2.length],.map (ak aa.str Tb.v M),.map (ak aa.str aa.bool s.1),.arr 5 (s.2.map Pb.v) 0]) ?_ ?_;apply zW 1 (mT [(6,.ptr 4 0)] [2]) (mH [] [.box (Dc.cs d)]);apply ao;refine zD cxM kq aj ?_;apply qu 6;refine qD (cI (o:=2) (ek:=aa.str) (ev:=aa.bool) (l:=s.1) (k:=d.name) (x:=true) eo kq eM ty9 rfl kq kq) ?_ ?_ ?_ ?_;refine bh kq ⟨kq,?_⟩;refine zE (fun _=>[(0,.ptr 0 0),(1,.str doc),(3,.imm (w.map aa.str)),(6,.ptr 4 0)]) (fun _=>[.box [.imm (Z.map Sm.v),.map 1,.map 2,.own 3 0 s.2.length],.map (ak aa.str Tb.v M),.map (ak aa.str aa.bool (bM d.name true s.1)),.arr 5 (s.2.map Pb.v) 0,.box (Dc.cs d)]) ?_ ?_;refine zD cxM kq yQ ?_;apply qu 13;refine qd (aA (a:=(d.na)) (b:=((d.name.length:Nat):Int)) kq oq oq) ?_ ?_ ?_ ?_;apply qu 3;refine qD (aP (o:=3) (len:=s.2.length) (l:=s.2) (xs:=[(Pb.mk doc (d.na) ((d.na)+((d.name.length:Nat):Int)) 8 w)]) (enc:=Pb.v) (sz:=5) (fr:=0) (x:=(.full [.agg [.str doc,.int .i64 (d.na),.int .i64 ((d.na)+((d.name.length:Nat):Int)),.int .i64 8,.imm (w.map aa.str)]])) kq k8 pK k8 rfl kq rfl (by first|rfl|simp) kq ⟨by decide,(by kernel_rfl)⟩ (fun _=>rfl) (by simp;omega) (by simp;omega)) ?_ ?_ ?_ ?_;apply qu 3;refine bh kq ⟨kq,?_⟩;refine cy (l:=[]) (.inl rfl) kq (by rfl) (by simp [bg]) (by simp [bg]) ?_ ?_;refine Eq.trans (b:=[.box [.imm (Z.map Sm.v),.map 1,.map 2,.own 3 0 (s.2++[(Pb.mk doc (d.na) ((d.na)+((d.name.length:Nat):Int)) 8 w)]).length],.map (ak aa.str Tb.v M),.map (ak aa.str aa.bool (bM d.name true s.1)),.arr 5 ((s.2++[(Pb.mk doc (d.na) ((d.na)+((d.name.length:Nat):Int)) 8 w)]).map Pb.v) 0]) kq ?_
 . simp [hpF,bH,iZ,cS]
 . simp [ax.belO,hpF,bH,dW,aM]
 iterate 17 kernel_rfl
end Go.Proofs.YtcpklndelobigaaGreatDoor
