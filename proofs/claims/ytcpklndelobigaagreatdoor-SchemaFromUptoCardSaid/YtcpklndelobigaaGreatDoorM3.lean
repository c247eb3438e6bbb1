/- What the finder says of one table. Conditions: sizes that can be had; what the lexer, Storable and Valid answer for its parts. -/
import Derived.Test.YtcpklndelobigaaGreatDoorM2
set_option linter.all false
namespace Go.Proofs.YtcpklndelobigaaGreatDoor
open Go.Proofs.YtcpklndelobigaaGreatDoor.Abs
set_option maxRecDepth 20000
set_option maxHeartbeats 4000000
structure Tb.ok (t:Tb):Prop where
 c:t.cols.length<=100
 k:t.key.length<=100
 r:t.refs.length<=100
 z:∀ c∈t.cols,c.type.sz<100000000
structure Dc.ok (d:Dc):Prop where
 n:d.name.length<1000000000
 a:-1000000000000<=d.na/\d.na<=1000000000000
 t:d.tab.ok
theorem Tb.ok.co {t:Tb} (h:t.ok) (n:List UInt8):(bV t.cols n).type.sz<100000000:=by
 unfold bV;cases e:t.cols.find? (fun c=>c.name==n) with
 | none=>decide
 | some x=>exact h.z x (List.mem_of_find?_eq_some e)
theorem Tb.ok.at {t:Tb} (h:t.ok) (i:Nat):(t.cols.getD i Co.zero).type.sz<100000000:=by
 by_cases hi:i<t.cols.length
 . exact h.z _ (bF _ _ _ hi)
 . rw [List.getD_eq_getElem?_getD,List.getElem?_eq_none oq];decide
noncomputable def c74:Code:=aF Tryz.f74
abbrev As (d:Dc)(k:Nat):List aa:=[.str (d.tab.cols.getD k Co.zero).name,.int .i64 ((d.tab.cols.getD k Co.zero).type.kind),.str (d.tab.cols.getD k Co.zero).type.name,.int .i64 ((d.tab.cols.getD k Co.zero).type.n),.imm ((d.tab.cols.getD k Co.zero).type.names.map aa.str),.imm ((d.tab.cols.getD k Co.zero).type.kids.map Ty.enc)]
abbrev kz (O:List UInt8->Bool)(U:Ty->Bool)(doc:List UInt8)(d:Dc)(k:Nat)(s:BP):=(jk O U doc d k (bif Nat.blt 8 d.tab.cols.length then bH doc d [] s else s))
abbrev pX (d:Dc)(k:Nat):=(d.tab.cols.getD k Co.zero)
abbrev Iv (doc:List UInt8)(d:Dc)(k:Nat):List (Nat×aa):=[(0,.ptr 0 0),(1,.str doc),(5,.ptr 4 0),(6,.map 5),(21,.imm (d.tab.cols.map Co.v)),(22,nI d.tab.cols.length),(23,nI k),(32,.map 5),(33,.ptr 6 0),(34,.str (pX d k).name),(35,.bool (aO (kn d.tab.cols k) ((pX d k).name)))]
abbrev C0 (doc:List UInt8)(d:Dc)(k:Nat)(O:List UInt8->Bool)(U:Ty->Bool)(s:BP):=(bH doc d [(pX d k).name] (eb d.name (kz O U doc d k s)))
abbrev I8 (d:Dc)(k:Nat):=(ak aa.str aa.bool (bM ((pX d k).name) true (kn d.tab.cols k)))
abbrev gm (M:Tm_):=(ak aa.str Tb.v M)
abbrev KM (doc:List UInt8)(d:Dc)(k:Nat):List (Nat×aa):=[(0,.ptr 0 0),(1,.str doc),(5,.ptr 4 0),(6,.map 5),(8,.ptr 6 0),(21,.imm (d.tab.cols.map Co.v)),(22,nI d.tab.cols.length),(23,nI k),(32,.map 5),(33,.ptr 6 0),(34,.str (pX d k).name),(35,.bool (aO (kn d.tab.cols k) ((pX d k).name)))]
abbrev Kq (Z:List Sm)(d:Dc)(O:List UInt8->Bool)(U:Ty->Bool)(doc:List UInt8)(k:Nat)(s:BP)(M:Tm_):List ax:=[.box [.imm (Z.map Sm.v),.map 1,.map 2,.own 3 0 (eb d.name (kz O U doc d k s)).2.length],.map (gm M),.map (ak aa.str aa.bool (eb d.name (kz O U doc d k s)).1),.arr 5 ((eb d.name (kz O U doc d k s)).2.map Pb.v) 0,.box (Dc.cs d),.map (I8 d k),.box (As d k)]
abbrev Ka (Z:List Sm)(doc:List UInt8)(d:Dc)(k:Nat)(O:List UInt8->Bool)(U:Ty->Bool)(s:BP)(M:Tm_):List ax:=[.box [.imm (Z.map Sm.v),.map 1,.map 2,.own 3 0 (C0 doc d k O U s).2.length],.map (gm M),.map (ak aa.str aa.bool (C0 doc d k O U s).1),.arr 5 ((C0 doc d k O U s).2.map Pb.v) 0,.box (Dc.cs d),.map (ak aa.str aa.bool (kn d.tab.cols k)),.box (As d k)]
abbrev KR (doc:List UInt8)(d:Dc)(k:Nat):List (Nat×aa):=[(0,.ptr 0 0),(1,.str doc),(5,.ptr 4 0),(6,.map 5),(21,.imm (d.tab.cols.map Co.v)),(22,nI d.tab.cols.length),(23,nI k),(32,.tup []),(33,.tup []),(34,.tup []),(35,.tup [])]
abbrev KC (Z:List Sm)(doc:List UInt8)(d:Dc)(k:Nat)(O:List UInt8->Bool)(U:Ty->Bool)(s:BP)(M:Tm_):List ax:=[.box [.imm (Z.map Sm.v),.map 1,.map 2,.own 3 0 (C0 doc d k O U s).2.length],.map (gm M),.map (ak aa.str aa.bool (C0 doc d k O U s).1),.arr 5 ((C0 doc d k O U s).2.map Pb.v) 0,.box (Dc.cs d),.map (I8 d k),.box (As d k)]
abbrev JE (Z:List Sm)(d:Dc)(O:List UInt8->Bool)(U:Ty->Bool)(doc:List UInt8)(k:Nat)(s:BP):List (Nat×ax):=[(0,.box [.imm (Z.map Sm.v),.map 1,.map 2,.own 3 0 (eb d.name (kz O U doc d k s)).2.length]),(2,.map (ak aa.str aa.bool (eb d.name (kz O U doc d k s)).1)),(3,.arr 5 ((eb d.name (kz O U doc d k s)).2.map Pb.v) 0)]
abbrev FW (Z:List Sm)(s:BP)(M:Tm_):List ax:=[.box [.imm (Z.map Sm.v),.map 1,.map 2,.own 3 0 s.2.length],.map (gm M),.map (ak aa.str aa.bool s.1),.arr 5 (s.2.map Pb.v) 0]
abbrev tU (doc:List UInt8)(d:Dc)(k:Nat)(O:List UInt8->Bool)(U:Ty->Bool)(s:BP):=(bH doc d [(pX d k).name] (kz O U doc d k s))
abbrev l3 (d:Dc)(k:Nat):=(kn d.tab.cols k)
abbrev m2 (U:Ty->Bool)(d:Dc)(k:Nat):=(!(U ((pX d k).type)))
abbrev lp (d:Dc)(k:Nat):=((pX d k).name)
theorem br {p:Prop} (h:p:=by simp [ax.belO,hpF,Ty.v,Ex.v,Ct.v,Co.v,Rf.v,Sm.v,Tb.v_cs,Sc.v,Md.v,Pb.v,Ls.v]):p:=h
theorem m1 {p:Prop} (h:p:=by first|omega|exact hd.t.at _):p:=h
theorem sO {p:Prop} (h:p:=by first|omega|(simp only [eb,nF];omega)):p:=h
theorem wQ (O:List UInt8->Bool) (U:Ty->Bool) (Z:List Sm) (M:Tm_) (s:BP) (doc:List UInt8) (d:Dc) (hd:d.ok) (hs:s.2.length<100000) (hlow:∀ i,i<d.tab.cols.length->af cx 70 [.int .i64 2,.str (d.tab.cols.getD i Co.zero).name] (.bool (O (d.tab.cols.getD i Co.zero).name))) (hsto:∀ i,i<d.tab.cols.length->af cx 136 [.imm (Z.map Sm.v),(d.tab.cols.getD i Co.zero).type.v] (.bool (U (d.tab.cols.getD i Co.zero).type))):aE cx 74 [.ptr 0 0,.str doc,Dc.v d] (hpF Z M s) (fun v h=>v=(.tup [])/\h=hpF Z M (b8 O U doc d s)):=by
 have hdc:=hd.t.c;have hs1:(bif Nat.blt 8 d.tab.cols.length then bH doc d [] s else s).2.length<=s.2.length+1:=by cases Nat.blt 8 d.tab.cols.length <;> simp [bH]
 refine am (cx:=cx) 62 4 [] Tryz.func74 rfl rfl rfl rfl rfl zq ?_;show wpA cx 62 4 (at_ c74 []) _ _ _;refine zZ (fun _=>[(0,.ptr 0 0),(1,.str doc),(2,Dc.v d)]) (fun _=>(FW Z s M)) ?_ ?_;apply zW 1 (mT [(5,.ptr 4 0)] [2]) (mH [] [.box (Dc.cs d)]);refine Bm (σ:=Unit) (fun _=>[(0,.ptr 0 0),(1,.str doc),(5,.ptr 4 0)]) (fun _=>[.box [.imm (Z.map Sm.v),.map 1,.map 2,.own 3 0 (bif Nat.blt 8 d.tab.cols.length then bH doc d [] s else s).2.length],.map (ak aa.str Tb.v M),.map (ak aa.str aa.bool (bif Nat.blt 8 d.tab.cols.length then bH doc d [] s else s).1),.arr 5 ((bif Nat.blt 8 d.tab.cols.length then bH doc d [] s else s).2.map Pb.v) 0,.box (Dc.cs d)]) (fun _=>True) kq ?_ ?_;apply zV 3;refine qy (aw (l:=d.tab.cols) (enc:=Co.v) kq eL) ?_ ?_ ?_;apply zR 1 (mU [(13,.bool (decide (((d.tab.cols.length:Nat):Int) > 8)))]) id;by_cases hb1:((d.tab.cols.length:Nat):Int) > 8;apply qt (decide_eq_true hb1);apply qo;apply qr 3;refine qA (cz Z M s doc d [] sO hd.n hd.a) br br rfl br br kq ?_;apply qe;refine ab ⟨(),?_,(fg kq (hT (by (first|rw [FG aq]|rw [GR aq])) kq) az br)⟩
 . trivial
 iterate 4 kernel_rfl
 apply qf (decide_eq_false hb1);apply qk;refine ab ⟨(),?_,(fg kq (hT (by (first|rw [FG aq]|rw [GR aq])) kq) az br)⟩
 . trivial
 iterate 6 kernel_rfl
 rintro _ _;apply zW 2 (mU [(6,.map 5)]) (mH [] [.map (ak aa.str aa.bool ([]:List (List UInt8×Bool)))]);apply zV 3;refine qy (aw (l:=d.tab.cols) (enc:=Co.v) kq eL) ?_ ?_ ?_;apply zR 1 (mU [(21,.imm (d.tab.cols.map Co.v)),(22,nI d.tab.cols.length),(23,.int .i64 0)]) id;apply qB 0;refine aU (σ:=Nat) (fun k=>[(0,.ptr 0 0),(1,.str doc),(5,.ptr 4 0),(6,.map 5),(21,.imm (d.tab.cols.map Co.v)),(22,.int .i64 ((d.tab.cols.length:Nat):Int)),(23,.int .i64 ((k:Nat):Int))]) (fun k=>[.box [.imm (Z.map Sm.v),.map 1,.map 2,.own 3 0 (jk O U doc d k (bif Nat.blt 8 d.tab.cols.length then bH doc d [] s else s)).2.length],.map (ak aa.str Tb.v M),.map (ak aa.str aa.bool (jk O U doc d k (bif Nat.blt 8 d.tab.cols.length then bH doc d [] s else s)).1),.arr 5 ((jk O U doc d k (bif Nat.blt 8 d.tab.cols.length then bH doc d [] s else s)).2.map Pb.v) 0,.box (Dc.cs d),.map (ak aa.str aa.bool (kn d.tab.cols k))]) (fun k=>k<=d.tab.cols.length) (fun k=>d.tab.cols.length - k) 0 kq (by exact Nat.zero_le _) (fg kq kq az br) ?_;rintro k hk;have hcl:=rY O U doc d (bif Nat.blt 8 d.tab.cols.length then bH doc d [] s else s) k;apply zW 1 (mU [(24,.bool (decide (((k:Nat):Int)<((d.tab.cols.length:Nat):Int))))]) id;apply ao;by_cases hb2:((k:Nat):Int)<((d.tab.cols.length:Nat):Int);apply qt (decide_eq_true hb2);apply qK;apply zZ (mT [] [24]) id;apply ao;apply qB 1;apply zO;refine qy ((av (k:=.i64) (l:=d.tab.cols) (enc:=Co.v) (i:=((k:Nat):Int)) Co.zero kq eL kp (fun _=>rfl) m1 m1).trans (congrArg (fun cs=>some (aa.pimm cs 0,_)) (dV (pX d k)))) ?_ ?_ ?_;apply zR 3 (mU [(8,.ptr 6 0)]) (mH [] [.box (As d k)]);apply ao;apply zV 2;refine qc [.int .i64 2,.str (pX d k).name] (hlow k oq) ?_ ?_;apply qr 2;by_cases hb3:(O ((d.tab.cols.getD k Co.zero).name))=true;refine zm [30,31] (x:=(!(O (lp d k)))) (congrArg not (hb3)) ?_ ?_;apply qr 3;refine qy (jK (a2:=0) (b2:=0) (ok:=false) (o:=5) (ek:=aa.str) (ev:=aa.bool) (l:=(l3 d k)) (k:=(lp d k)) eo kq eM ty9 kq ty4 kq false kq) ?_ ?_ ?_;apply zR 1 (mU [(32,.map 5),(33,.ptr 6 0),(34,.str (pX d k).name),(35,.bool (aO (l3 d k) (lp d k))),(36,.bool (aO (l3 d k) (lp d k)))]) id;by_cases hb4:(aO (kn d.tab.cols k) ((d.tab.cols.getD k Co.zero).name))=true;apply qt (hb4);refine zD cxM kq aj ?_;apply qu 6;refine qD (cI (o:=2) (ek:=aa.str) (ev:=aa.bool) (l:=(kz O U doc d k s).1) (k:=d.name) (x:=true) eo kq eM ty9 rfl kq kq) ?_ ?_ ?_ ?_;refine bh kq ⟨kq,?_⟩;apply zE (mT [] [36]) (mO [(2,.map (ak aa.str aa.bool (bM d.name true (kz O U doc d k s).1)))]);apply zZ id (mO (JE Z d O U doc k s));apply ao;apply ao;refine zD cxM kq aj ?_;apply qu 6;refine qQ (hsto k oq) aY aY aY kq ?_;apply qu 1;refine bh kq ⟨kq,?_⟩;apply zE (mU [(50,.bool (m2 U d k))]) id;by_cases hb5:(U ((d.tab.cols.getD k Co.zero).type))=true;refine qf (x:=(m2 U d k)) (congrArg not (hb5)) ?_ ?_;apply qK;apply zZ (mT [] [50]) id;apply qo;apply qr 3;refine qY (cI (o:=5) (ek:=aa.str) (ev:=aa.bool) (l:=(l3 d k)) (k:=(lp d k)) (x:=true) eo kq eM ty9 rfl kq kq) ?_ ?_ ?_;apply qe;apply ag;apply ab;refine zZ (fun _=>(Iv doc d k)) (fun _=>(Kq Z d O U doc k s M)) ?_ ?_;apply qo;refine qy (aA (a:=((k:Nat):Int)) (b:=1) kq m1 m1) ?_ ?_ ?_;apply qr 1;apply qe;refine ab ⟨k+1,?_,?_,(fg kq (hT (by rw [oj (b:=true) (c:=true) (F0 oq aq aq) aq]) kq) az br)⟩
 . omega
 . omega
 iterate 14 kernel_rfl
 refine qt (x:=(m2 U d k)) (congrArg not (Bool.eq_false_iff.2 hb5)) ?_ ?_;apply qo;apply qr 6;refine qA (cz Z M (eb d.name (jk O U doc d k (bif Nat.blt 8 d.tab.cols.length then bH doc d [] s else s))) doc d [(d.tab.cols.getD k Co.zero).name] sO hd.n hd.a) br br rfl br br kq ?_;refine qN (KM doc d k) (Ka Z doc d k O U s M) ?_ ?_;apply qo;apply qr 3;refine qY (cI (o:=5) (ek:=aa.str) (ev:=aa.bool) (l:=(l3 d k)) (k:=(lp d k)) (x:=true) eo kq eM ty9 rfl kq kq) ?_ ?_ ?_;apply qe;apply ag;apply ab;refine zZ (fun _=>(Iv doc d k)) (fun _=>(KC Z doc d k O U s M)) ?_ ?_;apply qo;refine qy (aA (a:=((k:Nat):Int)) (b:=1) kq m1 m1) ?_ ?_ ?_;apply qr 1;apply qe;refine ab ⟨k+1,?_,?_,(fg kq (hT (by rw [oj (b:=true) (c:=false) (F0 oq aq aq) (Bool.eq_false_iff.2 aq)]) kq) az br)⟩
 . omega
 . omega
 iterate 27 kernel_rfl
 apply qf (Bool.eq_false_iff.2 hb4);apply qK;apply zZ (mT [] [36]) id;apply ao;apply ao;refine zD cxM kq aj ?_;apply qu 6;refine qQ (hsto k oq) aY aY aY kq ?_;apply qu 1;refine bh kq ⟨kq,?_⟩;apply zE (mU [(50,.bool (m2 U d k))]) id;by_cases hb6:(U ((d.tab.cols.getD k Co.zero).type))=true;refine qf (x:=(m2 U d k)) (congrArg not (hb6)) ?_ ?_;apply qK;apply zZ (mT [] [50]) id;apply qo;apply qr 3;refine qY (cI (o:=5) (ek:=aa.str) (ev:=aa.bool) (l:=(l3 d k)) (k:=(lp d k)) (x:=true) eo kq eM ty9 rfl kq kq) ?_ ?_ ?_;apply qe;apply ag;apply ab;refine zZ (fun _=>(Iv doc d k)) (fun _=>[.box [.imm (Z.map Sm.v),.map 1,.map 2,.own 3 0 (kz O U doc d k s).2.length],.map (gm M),.map (ak aa.str aa.bool (kz O U doc d k s).1),.arr 5 ((kz O U doc d k s).2.map Pb.v) 0,.box (Dc.cs d),.map (I8 d k),.box (As d k)]) ?_ ?_;apply qo;refine qy (aA (a:=((k:Nat):Int)) (b:=1) kq m1 m1) ?_ ?_ ?_;apply qr 1;apply qe;refine ab ⟨k+1,?_,?_,(fg kq (hT (by rw [oj (b:=false) (c:=true) (FY oq aq aq) aq]) kq) az br)⟩
 . omega
 . omega
 iterate 14 kernel_rfl
 refine qt (x:=(m2 U d k)) (congrArg not (Bool.eq_false_iff.2 hb6)) ?_ ?_;apply qo;apply qr 6;refine qA (cz Z M (jk O U doc d k (bif Nat.blt 8 d.tab.cols.length then bH doc d [] s else s)) doc d [(d.tab.cols.getD k Co.zero).name] sO hd.n hd.a) br br rfl br br kq ?_;refine qN (KM doc d k) [.box [.imm (Z.map Sm.v),.map 1,.map 2,.own 3 0 (tU doc d k O U s).2.length],.map (gm M),.map (ak aa.str aa.bool (tU doc d k O U s).1),.arr 5 ((tU doc d k O U s).2.map Pb.v) 0,.box (Dc.cs d),.map (ak aa.str aa.bool (l3 d k)),.box (As d k)] ?_ ?_;apply qo;apply qr 3;refine qY (cI (o:=5) (ek:=aa.str) (ev:=aa.bool) (l:=(l3 d k)) (k:=(lp d k)) (x:=true) eo kq eM ty9 rfl kq kq) ?_ ?_ ?_;apply qe;apply ag;apply ab;refine zZ (fun _=>(Iv doc d k)) (fun _=>[.box [.imm (Z.map Sm.v),.map 1,.map 2,.own 3 0 (tU doc d k O U s).2.length],.map (gm M),.map (ak aa.str aa.bool (tU doc d k O U s).1),.arr 5 ((tU doc d k O U s).2.map Pb.v) 0,.box (Dc.cs d),.map (I8 d k),.box (As d k)]) ?_ ?_;apply qo;refine qy (aA (a:=((k:Nat):Int)) (b:=1) kq m1 m1) ?_ ?_ ?_;apply qr 1;apply qe;refine ab ⟨k+1,?_,?_,(fg kq (hT (by rw [oj (b:=false) (c:=false) (FY oq aq aq) (Bool.eq_false_iff.2 aq)]) kq) az br)⟩
 . omega
 . omega
 iterate 28 kernel_rfl
 refine zm [30,31] (x:=(!(O (lp d k)))) (congrArg not (Bool.eq_false_iff.2 hb3)) ?_ ?_;apply zR 5 (mU [(32,.tup []),(33,.tup []),(34,.tup []),(35,.tup []),(36,.bool true)]) id;refine cJ kq kq ?_;refine zD cxM kq aj ?_;apply qu 6;refine qD (cI (o:=2) (ek:=aa.str) (ev:=aa.bool) (l:=(kz O U doc d k s).1) (k:=d.name) (x:=true) eo kq eM ty9 rfl kq kq) ?_ ?_ ?_ ?_;refine bh kq ⟨kq,?_⟩;apply zE (mT [] [36]) (mO [(2,.map (ak aa.str aa.bool (bM d.name true (kz O U doc d k s).1)))]);apply zZ id (mO (JE Z d O U doc k s));apply ao;apply ao;refine zD cxM kq aj ?_;apply qu 6;refine qQ (hsto k oq) aY aY aY kq ?_;apply qu 1;refine bh kq ⟨kq,?_⟩;apply zE (mU [(50,.bool (m2 U d k))]) id;by_cases hb7:(U ((d.tab.cols.getD k Co.zero).type))=true;refine qf (x:=(m2 U d k)) (congrArg not (hb7)) ?_ ?_;apply qK;apply zZ (mT [] [50]) id;apply qo;apply qr 3;refine qY (cI (o:=5) (ek:=aa.str) (ev:=aa.bool) (l:=(l3 d k)) (k:=(lp d k)) (x:=true) eo kq eM ty9 rfl kq kq) ?_ ?_ ?_;apply qe;apply ag;apply ab;refine zZ (fun _=>(KR doc d k)) (fun _=>(Kq Z d O U doc k s M)) ?_ ?_;apply qo;refine qy (aA (a:=((k:Nat):Int)) (b:=1) kq m1 m1) ?_ ?_ ?_;apply qr 1;apply qe;refine ab ⟨k+1,?_,?_,(fg kq (hT (by rw [oj (b:=true) (c:=true) (G5 aq) aq]) kq) az br)⟩
 . omega
 . omega
 iterate 14 kernel_rfl
 refine qt (x:=(m2 U d k)) (congrArg not (Bool.eq_false_iff.2 hb7)) ?_ ?_;apply qo;apply qr 6;refine qA (cz Z M (eb d.name (jk O U doc d k (bif Nat.blt 8 d.tab.cols.length then bH doc d [] s else s))) doc d [(d.tab.cols.getD k Co.zero).name] sO hd.n hd.a) br br rfl br br kq ?_;refine qN [(0,.ptr 0 0),(1,.str doc),(5,.ptr 4 0),(6,.map 5),(8,.ptr 6 0),(21,.imm (d.tab.cols.map Co.v)),(22,nI d.tab.cols.length),(23,nI k),(32,.tup []),(33,.tup []),(34,.tup []),(35,.tup [])] (Ka Z doc d k O U s M) ?_ ?_;apply qo;apply qr 3;refine qY (cI (o:=5) (ek:=aa.str) (ev:=aa.bool) (l:=(l3 d k)) (k:=(lp d k)) (x:=true) eo kq eM ty9 rfl kq kq) ?_ ?_ ?_;apply qe;apply ag;apply ab;refine zZ (fun _=>(KR doc d k)) (fun _=>(KC Z doc d k O U s M)) ?_ ?_;apply qo;refine qy (aA (a:=((k:Nat):Int)) (b:=1) kq m1 m1) ?_ ?_ ?_;apply qr 1;apply qe;refine ab ⟨k+1,?_,?_,(fg kq (hT (by rw [oj (b:=true) (c:=false) (G5 aq) (Bool.eq_false_iff.2 aq)]) kq) az br)⟩
 . omega
 . omega
 iterate 42 kernel_rfl
 apply qf (decide_eq_false hb2);refine aK 0 kq kq ?_;apply ac;apply ac;apply au;refine cy (l:=[]) (.inl rfl) kq (by rfl) (by simp [bg]) (by simp [bg]) ?_ ?_;refine Eq.trans (b:=[.box [.imm (Z.map Sm.v),.map 1,.map 2,.own 3 0 (kz O U doc d k s).2.length],.map (gm M),.map (ak aa.str aa.bool (kz O U doc d k s).1),.arr 5 ((kz O U doc d k s).2.map Pb.v) 0]) kq ?_
 . have e:k=d.tab.cols.length:=by omega
   subst e;rfl
 . simp [ax.belO,hpF,Ty.v,Ex.v,Ct.v,Co.v,Rf.v,Sm.v,Tb.v_cs,Sc.v,Md.v,Pb.v,Ls.v]
 iterate 12 kernel_rfl
noncomputable def c75:Code:=aF Tryz.f75
abbrev LY (d:Dc)(k:Nat):List aa:=[.str (bV d.tab.cols (d.tab.key.getD k [])).name,.int .i64 ((bV d.tab.cols (d.tab.key.getD k [])).type.kind),.str (bV d.tab.cols (d.tab.key.getD k [])).type.name,.int .i64 ((bV d.tab.cols (d.tab.key.getD k [])).type.n),.imm ((bV d.tab.cols (d.tab.key.getD k [])).type.names.map aa.str),.imm ((bV d.tab.cols (d.tab.key.getD k [])).type.kids.map Ty.enc)]
abbrev nC (doc:List UInt8)(d:Dc)(k:Nat)(s:BP):=(jW doc d k (bif aS d.tab then bH doc d [] s else s))
abbrev de (d:Dc)(k:Nat):=(d.tab.key.getD k [])
theorem ar {p:Prop} (h:p:=by first|omega|(simp;omega)):p:=h
theorem LG {p:Prop} (h:p:=by (first|rw [yj aq]|rw [xO aq]|rw [xI aq aq])):p:=h
theorem Jm (Z:List Sm) (M:Tm_) (s:BP) (doc:List UInt8) (d:Dc) (hd:d.ok) (hs:s.2.length<100000):aE cx 75 [.ptr 0 0,.str doc,Dc.v d] (hpF Z M s) (fun v h=>v=(.tup [])/\h=hpF Z M (cj doc d s)):=by
 have hdc:=hd.t.c;have hdk:=hd.t.k;have hs1:(bif aS d.tab then bH doc d [] s else s).2.length<=s.2.length+1:=by cases aS d.tab <;> simp [bH]
 refine am (cx:=cx) 65 4 [] Tryz.func75 rfl rfl rfl rfl rfl zq ?_;show wpA cx 65 4 (at_ c75 []) _ _ _;refine zZ (fun _=>[(0,.ptr 0 0),(1,.str doc),(2,Dc.v d)]) (fun _=>(FW Z s M)) ?_ ?_;apply zW 1 (mT [(5,.ptr 4 0)] [2]) (mH [] [.box (Dc.cs d)]);refine Bm (σ:=Unit) (fun _=>[(0,.ptr 0 0),(1,.str doc),(5,.ptr 4 0)]) (fun _=>[.box [.imm (Z.map Sm.v),.map 1,.map 2,.own 3 0 (bif aS d.tab then bH doc d [] s else s).2.length],.map (ak aa.str Tb.v M),.map (ak aa.str aa.bool (bif aS d.tab then bH doc d [] s else s).1),.arr 5 ((bif aS d.tab then bH doc d [] s else s).2.map Pb.v) 0,.box (Dc.cs d)]) (fun _=>True) kq ?_ ?_;apply zV 3;refine qy (aw (l:=d.tab.key) (enc:=aa.str) kq bf) ?_ ?_ ?_;apply qr 2;by_cases hb1:((d.tab.key.length:Nat):Int)<1;apply zm [14,15] (decide_eq_true hb1);apply zR 6 (mU [(21,.bool true)]) id;refine cJ kq kq ?_;apply qo;apply qr 3;refine qA (cz Z M s doc d [] sO hd.n hd.a) br br rfl br br kq ?_;apply qe;refine ab ⟨(),?_,(fg kq (hT LG kq) az br)⟩
 . trivial
 iterate 5 kernel_rfl
 apply zm [14,15] (decide_eq_false hb1);apply qr 3;refine qy (aw (l:=d.tab.key) (enc:=aa.str) kq bf) ?_ ?_ ?_;apply zR 2 (mU [(21,.bool (decide (((d.tab.key.length:Nat):Int) > 3)))]) id;by_cases hb2:((d.tab.key.length:Nat):Int) > 3;apply qt (decide_eq_true hb2);apply qo;apply qr 3;refine qA (cz Z M s doc d [] sO hd.n hd.a) br br rfl br br kq ?_;apply qe;refine ab ⟨(),?_,(fg kq (hT LG kq) az br)⟩
 . trivial
 iterate 4 kernel_rfl
 apply qf (decide_eq_false hb2);apply qk;refine ab ⟨(),?_,(fg kq (hT LG kq) az br)⟩
 . trivial
 iterate 11 kernel_rfl
 rintro _ _;apply zV 3;refine qy (aw (l:=d.tab.key) (enc:=aa.str) kq bf) ?_ ?_ ?_;apply zR 1 (mU [(28,.imm (d.tab.key.map aa.str)),(29,nI d.tab.key.length),(30,.int .i64 0)]) id;apply qB 0;refine aU (σ:=Nat) (fun k=>[(0,.ptr 0 0),(1,.str doc),(5,.ptr 4 0),(28,.imm (d.tab.key.map aa.str)),(29,.int .i64 ((d.tab.key.length:Nat):Int)),(30,.int .i64 ((k:Nat):Int))]) (fun k=>[.box [.imm (Z.map Sm.v),.map 1,.map 2,.own 3 0 (jW doc d k (bif aS d.tab then bH doc d [] s else s)).2.length],.map (ak aa.str Tb.v M),.map (ak aa.str aa.bool (jW doc d k (bif aS d.tab then bH doc d [] s else s)).1),.arr 5 ((jW doc d k (bif aS d.tab then bH doc d [] s else s)).2.map Pb.v) 0,.box (Dc.cs d)]) (fun k=>k<=d.tab.key.length) (fun k=>d.tab.key.length - k) 0 kq (by exact Nat.zero_le _) (fg kq kq az br) ?_;rintro k hk;have hcl:=r5 doc d (bif aS d.tab then bH doc d [] s else s) k;apply zW 1 (mU [(31,.bool (decide (((k:Nat):Int)<((d.tab.key.length:Nat):Int))))]) id;apply ao;by_cases hb3:((k:Nat):Int)<((d.tab.key.length:Nat):Int);apply qt (decide_eq_true hb3);apply qK;apply zZ (mT [] [31]) id;apply ao;apply qB 1;apply zV 1;refine qy (av (k:=.i64) (l:=d.tab.key) (enc:=aa.str) (i:=((k:Nat):Int)) [] kq bf ty9 (fun _=>rfl) ar ar) ?_ ?_ ?_;apply zR 3 (mU [(6,nI k),(7,.str (de d k))]) id;apply ao;apply zV 4;refine qP (jL d.tab.cols (de d k) ar) aY aY aY kq ?_;apply zR 6 (mU [(9,.bool (bt d.tab.cols (de d k)))]) (mH [] [.box (LY d k)]);apply zW 2 (mT [(44,.bool (!(bt d.tab.cols (de d k))))] [9]) id;by_cases hb4:(bt d.tab.cols (d.tab.key.getD k []))=true;refine qf (x:=(!(bt d.tab.cols (de d k)))) (congrArg not (hb4)) ?_ ?_;apply qK;apply zZ (mT [] [44]) id;apply zV 4;refine qy (bZ (lo:=none) (hi:=(some (nI k))) (l:=d.tab.key) (enc:=aa.str) (x:=0) (y:=((k:Nat):Int)) kq bf ty9 (fun _=>rfl) kq kq ar ar ar) ?_ ?_ ?_;apply qr 1;refine qP (kh (d.tab.key.take k) (de d k) ar) aY aY aY kq ?_;apply zN (mT [(57,.bool ((d.tab.key.take k).contains (de d k)))] [6]) id;by_cases hb5:((d.tab.key.take k).contains (d.tab.key.getD k []))=true;apply qt (hb5);apply qo;apply qr 5;refine qA (cz Z M (jW doc d k (bif aS d.tab then bH doc d [] s else s)) doc d [(d.tab.key.getD k [])] sO hd.n hd.a) br br rfl br br kq ?_;apply qe;apply ag;apply ab;refine zZ (fun _=>[(0,.ptr 0 0),(1,.str doc),(5,.ptr 4 0),(28,.imm (d.tab.key.map aa.str)),(29,nI d.tab.key.length),(30,nI k)]) (fun _=>[.box [.imm (Z.map Sm.v),.map 1,.map 2,.own 3 0 (bH doc d [(de d k)] (nC doc d k s)).2.length],.map (gm M),.map (ak aa.str aa.bool (bH doc d [(de d k)] (nC doc d k s)).1),.arr 5 ((bH doc d [(de d k)] (nC doc d k s)).2.map Pb.v) 0,.box (Dc.cs d),.box (LY d k)]) ?_ ?_;apply qo;refine qy (aA (a:=((k:Nat):Int)) (b:=1) kq ar ar) ?_ ?_ ?_;apply qr 1;apply qe;refine ab ⟨k+1,?_,?_,(fg kq (hT (by rw [vB (b:=true) (c:=true) aq aq]) kq) az br)⟩
 . omega
 . omega
 iterate 10 kernel_rfl
 apply qf (Bool.eq_false_iff.2 hb5);apply qk;apply ag;apply ab;apply zZ (mT [] [7,57]) id;apply qo;refine qy (aA (a:=((k:Nat):Int)) (b:=1) kq ar ar) ?_ ?_ ?_;apply qr 1;apply qe;refine ab ⟨k+1,?_,?_,(fg kq (hT (by rw [vB (b:=true) (c:=false) aq (Bool.eq_false_iff.2 aq)]) kq) az br)⟩
 . omega
 . omega
 iterate 16 kernel_rfl
 refine qt (x:=(!(bt d.tab.cols (de d k)))) (congrArg not (Bool.eq_false_iff.2 hb4)) ?_ ?_;refine zD cxM kq aj ?_;apply qu 6;refine qD (cI (o:=2) (ek:=aa.str) (ev:=aa.bool) (l:=(nC doc d k s).1) (k:=d.name) (x:=true) eo kq eM ty9 rfl kq kq) ?_ ?_ ?_ ?_;refine bh kq ⟨kq,?_⟩;apply zE (mT [] [44]) (mO [(2,.map (ak aa.str aa.bool (bM d.name true (nC doc d k s).1)))]);apply zZ id (mO [(0,.box [.imm (Z.map Sm.v),.map 1,.map 2,.own 3 0 (eb d.name (nC doc d k s)).2.length]),(2,.map (ak aa.str aa.bool (eb d.name (nC doc d k s)).1)),(3,.arr 5 ((eb d.name (nC doc d k s)).2.map Pb.v) 0)]);apply zV 4;refine qy (bZ (lo:=none) (hi:=(some (nI k))) (l:=d.tab.key) (enc:=aa.str) (x:=0) (y:=((k:Nat):Int)) kq bf ty9 (fun _=>rfl) kq kq ar ar ar) ?_ ?_ ?_;apply qr 1;refine qP (kh (d.tab.key.take k) (de d k) ar) aY aY aY kq ?_;apply zN (mT [(57,.bool ((d.tab.key.take k).contains (de d k)))] [6]) id;by_cases hb6:((d.tab.key.take k).contains (d.tab.key.getD k []))=true;apply qt (hb6);apply qo;apply qr 5;refine qA (cz Z M (eb d.name (jW doc d k (bif aS d.tab then bH doc d [] s else s))) doc d [(d.tab.key.getD k [])] sO hd.n hd.a) br br rfl br br kq ?_;apply qe;apply ag;apply ab;refine zZ (fun _=>[(0,.ptr 0 0),(1,.str doc),(5,.ptr 4 0),(28,.imm (d.tab.key.map aa.str)),(29,nI d.tab.key.length),(30,nI k)]) (fun _=>[.box [.imm (Z.map Sm.v),.map 1,.map 2,.own 3 0 (bH doc d [(de d k)] (eb d.name (nC doc d k s))).2.length],.map (gm M),.map (ak aa.str aa.bool (bH doc d [(de d k)] (eb d.name (nC doc d k s))).1),.arr 5 ((bH doc d [(de d k)] (eb d.name (nC doc d k s))).2.map Pb.v) 0,.box (Dc.cs d),.box (LY d k)]) ?_ ?_;apply qo;refine qy (aA (a:=((k:Nat):Int)) (b:=1) kq ar ar) ?_ ?_ ?_;apply qr 1;apply qe;refine ab ⟨k+1,?_,?_,(fg kq (hT (by rw [vB (b:=false) (c:=true) (Bool.eq_false_iff.2 aq) aq]) kq) az br)⟩
 . omega
 . omega
 iterate 10 kernel_rfl
 apply qf (Bool.eq_false_iff.2 hb6);apply qk;apply ag;apply ab;apply zZ (mT [] [7,57]) id;apply qo;refine qy (aA (a:=((k:Nat):Int)) (b:=1) kq ar ar) ?_ ?_ ?_;apply qr 1;apply qe;refine ab ⟨k+1,?_,?_,(fg kq (hT (by rw [vB (b:=false) (c:=false) (Bool.eq_false_iff.2 aq) (Bool.eq_false_iff.2 aq)]) kq) az br)⟩
 . omega
 . omega
 iterate 34 kernel_rfl
 apply qf (decide_eq_false hb3);refine aK 0 kq kq ?_;apply ac;apply ac;apply au;refine cy (l:=[]) (.inl rfl) kq (by rfl) (by simp [bg]) (by simp [bg]) ?_ ?_;refine Eq.trans (b:=[.box [.imm (Z.map Sm.v),.map 1,.map 2,.own 3 0 (nC doc d k s).2.length],.map (gm M),.map (ak aa.str aa.bool (nC doc d k s).1),.arr 5 ((nC doc d k s).2.map Pb.v) 0]) kq ?_
 . have e:k=d.tab.key.length:=by omega
   subst e;rfl
 . simp [ax.belO,hpF,Ty.v,Ex.v,Ct.v,Co.v,Rf.v,Sm.v,Tb.v_cs,Sc.v,Md.v,Pb.v,Ls.v]
 iterate 11 kernel_rfl
end Go.Proofs.YtcpklndelobigaaGreatDoor
