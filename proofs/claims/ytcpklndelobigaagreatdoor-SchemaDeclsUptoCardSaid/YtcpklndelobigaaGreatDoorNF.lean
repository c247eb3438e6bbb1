/- A part of the proof: plain lemmas and walks. No condition. -/
import Derived.Test.YtcpklndelobigaaGreatDoorND
set_option linter.all false
namespace Go.Proofs.YtcpklndelobigaaGreatDoor
open Go.Proofs.YtcpklndelobigaaGreatDoor.Abs
set_option maxRecDepth 20000
set_option maxHeartbeats 4000000
theorem UB {D J O:List UInt8->Bool} {X:Ct->Bool} {U:Ty->Bool} {Y:Ex->Int} {s:Sc} (h:kx D J O X U Y s) {x:Sm} (hx:x∈s.sums):x.ctors.length<1000000000:=by
 obtain ⟨i,hi,rfl⟩:=List.getElem_of_mem hx;have:=h.c i;rw [a7 _ _ _ hi] at this;omega
abbrev eg (s:Sc):List am:=[.box (eB s)]
abbrev pR :=(ResultVar.tmp 2)
abbrev AS :=(mT [(1,.ptr 0 0)] [0])
theorem xH (D J O:List UInt8->Bool) (X:Ct->Bool) (U:Ty->Bool) (Y:Ex->Int) (s:Sc) (hv:kx D J O X U Y s):ae cx 49 [Sc.v s] (.bool (hX D J O s)):=by
 have h1:=hv.n;have h2:=hv.t;have h3:=hv.all;refine fI 16 0 [pR] Tryz.func49 kq ?_;refine zZ (fun _=>[(0,Sc.v s)]) (fun _=>[]) ?_ ?_;apply zW 2 AS (mH [] (eg s));apply zV 2;refine qP (EY s.sums 105 (fun x=>D x.name) ⟨fun x hx=>JY x _ (hv.sn x hx),ar⟩) aE aE aE kq ?_;apply qr 1;by_cases hb1:(s.sums.all (fun x=>D x.name))=true;refine zm [5,6] (hb1) ?_ ?_;apply qr 1;refine qP (pi s oq (fun k=>by have:=hv.m k;simpa using Nat.lt_of_le_of_lt this dq) (fun k=>Nat.lt_of_le_of_lt (hv.c k) dq)) aE aE aE kq ?_;refine qP (Ei (ba s.sums) 108 (fun x=>J x.name) ⟨fun x hx=>Hd x _ (hv.cf x hx),ar⟩) aE aE aE kq ?_;apply qr 2;by_cases hb2:((ba s.sums).all (fun x=>J x.name))=true;refine zm [9,10,11] (hb2) ?_ ?_;apply qr 2;refine qP (sf s.tabs 109 (fun x=>O x.name && x.cols.all (fun x=>O x.name)) ⟨fun x hx=>Ki x O (hv.ok x hx) (hv.tf x hx) (hv.cl x hx),ar⟩) aE aE aE kq ?_;refine qX 2 ?_ ?_;refine aD (b:=(s.tabs.all (fun x=>O x.name && x.cols.all (fun x=>O x.name)))) (.inr rfl) kq ?_
 . simp [hX, *]
 iterate 3 kernel_rfl
 refine zm [9,10,11] (Bool.eq_false_iff.2 hb2) ?_ ?_;refine qX 5 ?_ ?_;refine aD (b:=false) (.inr rfl) kq ?_
 . simp [hX, *]
 iterate 5 kernel_rfl
 refine zm [5,6] (Bool.eq_false_iff.2 hb1) ?_ ?_;refine qX 10 ?_ ?_;refine aD (b:=false) (.inr rfl) kq ?_
 . simp [hX, *]
 iterate 6 kernel_rfl
theorem uT (D J O:List UInt8->Bool) (X:Ct->Bool) (U:Ty->Bool) (Y:Ex->Int) (s:Sc) (hv:kx D J O X U Y s):ae cx 50 [Sc.v s] (.bool (gh s)):=by
 have h1:=hv.n;have h2:=hv.t;have h3:=hv.all;refine fI 22 0 [pR] Tryz.func50 kq ?_;refine zZ (fun _=>[(0,Sc.v s)]) (fun _=>[]) ?_ ?_;apply zW 2 AS (mH [] (eg s));apply ai;apply zV 2;refine qP (I5 s.sums 114 Sm.name (fun x _=>qj x) ar) aE aE aE kq ?_;refine qP (gl (s.sums.map Sm.name) ar) aE aE aE kq ?_;apply qr 1;by_cases hb1:(bA (s.sums.map Sm.name))=true;refine zm [6,7] (hb1) ?_ ?_;refine zR 11 (fun _=>[(1,.ptr 0 0),(18,.bool true)]) (fun _=>(eg s)) ?_ ?_;refine ga kq kq ?_;apply zV 1;refine qT ?_ ?_;apply aR;refine aD (b:=false) (.inr rfl) kq ?_
 . simp [gh, *]
 iterate 4 kernel_rfl
 refine zm [6,7] (Bool.eq_false_iff.2 hb1) ?_ ?_;apply qr 2;refine qP (H9 s.tabs 116 Tb.name (fun x _=>lW x) ar) aE aE aE kq ?_;refine qP (gl (s.tabs.map Tb.name) ar) aE aE aE kq ?_;apply qr 2;by_cases hb2:(bA (s.tabs.map Tb.name))=true;refine zm [11,12,13] (hb2) ?_ ?_;refine zR 5 (fun _=>[(1,.ptr 0 0),(18,.bool true)]) (fun _=>(eg s)) ?_ ?_;refine ga kq kq ?_;apply zV 1;refine qT ?_ ?_;apply aR;refine aD (b:=false) (.inr rfl) kq ?_
 . simp [gh, *]
 iterate 4 kernel_rfl
 refine zm [11,12,13] (Bool.eq_false_iff.2 hb2) ?_ ?_;apply qr 1;refine qP (pi s oq (fun k=>by have:=hv.m k;simpa using Nat.lt_of_le_of_lt this dq) (fun k=>Nat.lt_of_le_of_lt (hv.c k) dq)) aE aE aE kq ?_;refine qP (Q2 (ba s.sums) 118 Ct.name (fun x _=>JF x) ar) aE aE aE kq ?_;refine qP (gl ((ba s.sums).map Ct.name) ar) aE aE aE kq ?_;refine zR 1 (fun _=>[(1,.ptr 0 0),(18,.bool (bA ((ba s.sums).map Ct.name)))]) (fun _=>(eg s)) ?_ ?_;by_cases hb3:(bA ((ba s.sums).map Ct.name))=true;apply qt (hb3);apply zV 1;refine qT ?_ ?_;apply aR;refine aD (b:=false) (.inr rfl) kq ?_
 . simp [gh, *]
 iterate 3 kernel_rfl
 apply qf (Bool.eq_false_iff.2 hb3);apply qK;refine zZ (fun _=>mX) (fun _=>(eg s)) ?_ ?_;apply zV 2;refine qP (sf s.tabs 119 (fun x=>!bA (x.cols.map Co.name) && (!bA x.key && !bA (x.refs.map Rf.col))) ⟨fun x hx=>Hz x (hv.ok x hx),ar⟩) aE aE aE kq ?_;refine qX 1 ?_ ?_;refine aD (b:=(s.tabs.all (fun x=>!bA (x.cols.map Co.name) && (!bA x.key && !bA (x.refs.map Rf.col))))) (.inr rfl) kq ?_
 . simp [gh, *]
 iterate 16 kernel_rfl
theorem z7 (D J O:List UInt8->Bool) (X:Ct->Bool) (U:Ty->Bool) (Y:Ex->Int) (s:Sc) (hv:kx D J O X U Y s):ae cx 51 [Sc.v s] (.bool (fD X Y s)):=by
 have h1:=hv.n;have h2:=hv.t;have h3:=hv.all;refine fI 28 0 [pR] Tryz.func51 kq ?_;refine zZ (fun _=>[(0,Sc.v s)]) (fun _=>[]) ?_ ?_;apply zW 2 AS (mH [] (eg s));apply zV 2;refine qP (I5 s.sums 114 Sm.name (fun x _=>qj x) ar) aE aE aE kq ?_;refine qP (Bp (s.sums.map Sm.name) ar) aE aE aE kq ?_;apply qr 1;by_cases hb1:(eP (s.sums.map Sm.name))=true;refine zm [6,7] (hb1) ?_ ?_;apply qr 2;refine qP (H9 s.tabs 116 Tb.name (fun x _=>lW x) ar) aE aE aE kq ?_;refine qP (Bp (s.tabs.map Tb.name) ar) aE aE aE kq ?_;apply qr 2;by_cases hb2:(eP (s.tabs.map Tb.name))=true;refine zm [11,12,13] (hb2) ?_ ?_;apply qr 2;refine qP (EY s.sums 125 (fun x=>!x.ctors.isEmpty) ⟨fun x hx=>Kd x (UB hv hx),ar⟩) aE aE aE kq ?_;apply qr 2;by_cases hb3:(s.sums.all (fun x=>!x.ctors.isEmpty))=true;refine zm [16,17,18] (hb3) ?_ ?_;apply qr 1;refine qP (pi s oq (fun k=>by have:=hv.m k;simpa using Nat.lt_of_le_of_lt this dq) (fun k=>Nat.lt_of_le_of_lt (hv.c k) dq)) aE aE aE kq ?_;refine qP (Ei (ba s.sums) 71 (fun x=>X x) ⟨fun x hx=>hv.cc x hx,ar⟩) aE aE aE kq ?_;apply qr 2;by_cases hb4:((ba s.sums).all (fun x=>X x))=true;refine zm [21,22,23] (hb4) ?_ ?_;apply qr 2;refine qP (sf s.tabs 126 (fun x=>!bn x && Y x.chk==0) ⟨fun x hx=>Jo x Y (hv.ok x hx) (hv.ck x hx),ar⟩) aE aE aE kq ?_;refine qX 2 ?_ ?_;refine aD (b:=(s.tabs.all (fun x=>!bn x && Y x.chk==0))) (.inr rfl) kq ?_
 . simp [fD, *]
 iterate 3 kernel_rfl
 refine zm [21,22,23] (Bool.eq_false_iff.2 hb4) ?_ ?_;refine qX 5 ?_ ?_;refine aD (b:=false) (.inr rfl) kq ?_
 . simp [fD, *]
 iterate 5 kernel_rfl
 refine zm [16,17,18] (Bool.eq_false_iff.2 hb3) ?_ ?_;refine qX 10 ?_ ?_;refine aD (b:=false) (.inr rfl) kq ?_
 . simp [fD, *]
 iterate 5 kernel_rfl
 refine zm [11,12,13] (Bool.eq_false_iff.2 hb2) ?_ ?_;refine qX 15 ?_ ?_;refine aD (b:=false) (.inr rfl) kq ?_
 . simp [fD, *]
 iterate 5 kernel_rfl
 refine zm [6,7] (Bool.eq_false_iff.2 hb1) ?_ ?_;refine qX 21 ?_ ?_;refine aD (b:=false) (.inr rfl) kq ?_
 . simp [fD, *]
 iterate 6 kernel_rfl
abbrev TR (t:Tb)(n:List UInt8):List aa:=[.str (cp t.cols n).name,.int .i64 ((cp t.cols n).type.kind),.str (cp t.cols n).type.name,.int .i64 ((cp t.cols n).type.n),.imm ((cp t.cols n).type.names.map aa.str),.imm ((cp t.cols n).type.kids.map Ty.enc)]
abbrev ve (s:Sc)(t:Tb):List am:=[.box (eB s),.box (Tb.cs t)]
abbrev L5 (s:Sc):List aa:=[.imm (s.sums.map Sm.v),.imm (s.tabs.map Tb.v)]
abbrev Lm (s:Sc)(t:Tb):List am:=[.box (L5 s),.box (Tb.cs t)]
theorem zc (t:Tb) (s:Sc) (n:List UInt8) (ht:t.ok):av cx 128 [.str n,.ptr 1 0] (Lm s t) (fun v h=>v=(.bool (aW t.cols n))/\h=(Lm s t)):=by
 have h1:=ht.c;refine fI 14 2 [oe] Tryz.func128 kq ?_;refine zZ (fun _=>[(0,.str n),(1,.ptr 1 0)]) (fun _=>(ve s t)) ?_ ?_;apply zW 1 id id;apply zV 3;refine qP (fB t.cols n gx) aE aE aE kq ?_;apply zR 6 (mT [(5,.bool (aW t.cols n))] [0,1]) (mH [] [.box (TR t n)]);refine zW 2 (fun _=>[(3,.bool (aW t.cols n))]) (fun _=>[.box (eB s),.box (Tb.cs t),.box (TR t n)]) ?_ ?_;refine aJ kq ?_;refine aO (l:=[.bool (aW t.cols n)]) (.inr rfl) kq (by rfl) aQ aQ ?_ ?_;refine Eq.trans (b:=(ve s t)) kq ?_
 . rfl
 . simp [am.belO,aa.bel,aC,Ty.v,Ex.v,Ct.v,Co.v,Rf.v,Sm.v,Tb.v_cs,Sc.v,Md.v,Pb.v,Ls.v,-List.map_take,-List.map_drop,-List.map_append]
 iterate 5 kernel_rfl
abbrev Ji (s:Sc)(r:Rf):=(Tb.cs (cg s.tabs r.tab))
theorem iy {p:Prop} (h:p:=by simp [am.belO,aa.bel,aC,Ty.v,Ex.v,Ct.v,Co.v,Rf.v,Sm.v,Tb.v_cs,Sc.v,Md.v,Pb.v,Ls.v,-List.map_take,-List.map_drop,-List.map_append]):p:=h
theorem LB {p:Prop} (h:p:=by show aa.bool _=aa.bool _;simp [*]):p:=h
abbrev BZ (s:Sc)(t:Tb):List am:=[.box (eB s),.box (Tb.cs t),.box [.fn (.func 128) [] [.ptr 1 0]]]
abbrev Jy :List aa:=[.fn (.func 128) [] [.ptr 1 0]]
theorem HJ (t:Tb) (s:Sc) (r:Rf) (ht:t.ok) (hz1:s.tabs.length<=100) (hz2:∀ t∈s.tabs,t.ok):av cx 132 [Rf.v r,.ptr 0 0,.ptr 2 0] [.box (L5 s),.box (Tb.cs t),.box Jy] (fun v h=>v=(.bool (cY s.tabs r.tab && aW t.cols r.col))/\h=[.box (L5 s),.box (Tb.cs t),.box Jy]):=by
 have h1:=ht.c;refine fI 21 3 [fw] Tryz.func132 kq ?_;refine zZ (fun _=>[(0,Rf.v r),(1,.ptr 0 0),(2,.ptr 2 0)]) (fun _=>(BZ s t)) ?_ ?_;apply zW 2 (mT [(3,.ptr 3 0)] [0]) (mH [] (rg r));apply zV 3;refine qP (tK s r.tab hz1 hz2) aE aE aE kq ?_;apply zR 6 (mT [(6,.bool (cY s.tabs r.tab))] [1]) (mH [] [.box (Ji s r)]);apply zV 2;by_cases hb1:(cY s.tabs r.tab)=true;refine zm [6,14,15] (hb1) ?_ ?_;apply qr 3;refine qA (zc t s r.col ht) iy iy rfl iy iy kq ?_;refine zR 2 (fun _=>[(4,.bool (aW t.cols r.col))]) (fun _=>[.box (eB s),.box (Tb.cs t),.box Jy,.box [.str r.col,.str r.tab],.box (Ji s r)]) ?_ ?_;refine aJ kq ?_;refine aO (l:=[.bool (aW t.cols r.col)]) (.inr rfl) kq LB aQ aQ ?_ ?_;refine Eq.trans (b:=(BZ s t)) kq ?_
 . rfl
 rotate_left
 iterate 3 kernel_rfl
 refine zm [6,14,15] (Bool.eq_false_iff.2 hb1) ?_ ?_;refine zR 6 (fun _=>[(4,.bool false)]) (fun _=>[.box (eB s),.box (Tb.cs t),.box Jy,.box [.str r.col,.str r.tab],.box (Ji s r)]) ?_ ?_;refine aJ kq ?_;refine aO (l:=[.bool false]) (.inr rfl) kq LB aQ aQ ?_ ?_;refine Eq.trans (b:=(BZ s t)) kq ?_
 . rfl
 rotate_left
 iterate 7 kernel_rfl
 all_goals
  simp [am.belO,aa.bel,aC,Ty.v,Ex.v,Ct.v,Co.v,Rf.v,Sm.v,Tb.v_cs,Sc.v,Md.v,Pb.v,Ls.v,-List.map_take,-List.map_drop,-List.map_append]
abbrev N0 :=(mT [(2,.ptr 1 0)] [0])
theorem um {p:Prop} (h:p:=by intro n;simp [aC,aa.bel,Ty.v,Ex.v,Ct.v,Co.v,Rf.v,Sm.v,Tb.v_cs,Sc.v,Md.v,Pb.v,Ls.v]):p:=h
abbrev AG (s:Sc):List am:=[.box (L5 s)]
theorem MS (t:Tb) (s:Sc) (ht:t.ok) (hz1:s.tabs.length<=100) (hz2:∀ t∈s.tabs,t.ok):av cx 127 [Tb.v t,.ptr 0 0] (AG s) (fun v h=>v=(.bool (t.key.all (aW t.cols) && t.refs.all (fun r=>cY s.tabs r.tab && aW t.cols r.col)))/\h=(AG s)):=by
 have h1:=ht.c;have h2:=ht.k;have h3:=ht.r;refine fI 16 1 [oe] Tryz.func127 kq ?_;refine zZ (fun _=>[(0,Tb.v t),(1,.ptr 0 0)]) (fun _=>(eg s)) ?_ ?_;apply zW 2 N0 (mH [] [.box (Tb.cs t)]);apply zW 3 (mU [(4,.ptr 2 0)]) (mH [] [.box Jy]);apply zV 3;refine qA (hs:=(ve s t)) (hs':=(ve s t)) (Jp t.key 128 (fun x=>aW t.cols x) _ _ ⟨fun x hx=>zc t s x ht,um,um,ar⟩) iy iy rfl iy iy kq ?_;apply qr 1;by_cases hb1:(t.key.all (fun x=>aW t.cols x))=true;refine zm [9,10] (hb1) ?_ ?_;apply qr 3;refine qA (hs:=(BZ s t)) (hs':=(BZ s t)) (NX t.refs 132 (fun x=>cY s.tabs x.tab && aW t.cols x.col) _ _ _ ⟨fun x hx=>HJ t s x ht hz1 hz2,um,um,um,ar⟩) iy iy rfl iy iy kq ?_;refine zR 2 (fun _=>[(3,.bool (t.refs.all (fun x=>cY s.tabs x.tab && aW t.cols x.col)))]) (fun _=>(BZ s t)) ?_ ?_;refine aJ kq ?_;refine aO (l:=[.bool (t.refs.all (fun x=>cY s.tabs x.tab && aW t.cols x.col))]) (.inr rfl) kq LB aQ aQ ?_ ?_;refine Eq.trans (b:=(eg s)) kq ?_
 . rfl
 rotate_left
 iterate 3 kernel_rfl
 refine zm [9,10] (Bool.eq_false_iff.2 hb1) ?_ ?_;refine zR 6 (fun _=>[(3,.bool false)]) (fun _=>(BZ s t)) ?_ ?_;refine aJ kq ?_;refine aO (l:=[.bool false]) (.inr rfl) kq LB aQ aQ ?_ ?_;refine Eq.trans (b:=(eg s)) kq ?_
 . rfl
 rotate_left
 iterate 7 kernel_rfl
 all_goals
  simp [am.belO,aa.bel,aC,Ty.v,Ex.v,Ct.v,Co.v,Rf.v,Sm.v,Tb.v_cs,Sc.v,Md.v,Pb.v,Ls.v,-List.map_take,-List.map_drop,-List.map_append]
theorem rL {p:Prop} (h:p:=by simp [am.belO,Ty.v,Ex.v,Ct.v,Co.v,Rf.v,Sm.v,Tb.v_cs,Sc.v,Md.v,Pb.v,Ls.v,-List.map_take,-List.map_drop,-List.map_append]):p:=h
theorem B2 (D J O:List UInt8->Bool) (X:Ct->Bool) (U:Ty->Bool) (Y:Ex->Int) (s:Sc) (hv:kx D J O X U Y s):ae cx 52 [Sc.v s] (.bool (ie s)):=by
 have h1:=hv.n;have h2:=hv.t;have h3:=hv.all;refine fI 7 0 [pR] Tryz.func52 kq ?_;refine zZ (fun _=>[(0,Sc.v s)]) (fun _=>[]) ?_ ?_;refine zW 2 (fun _=>mX) (fun _=>(eg s)) ?_ ?_;apply zV 3;refine qA (hs:=(eg s)) (hs':=(eg s)) (xV s.tabs 127 (fun x=>x.key.all (aW x.cols) && x.refs.all (fun r=>cY s.tabs r.tab && aW x.cols r.col)) _ ⟨fun x hx=>MS x s (hv.ok x hx) hv.t hv.ok,um,ar⟩) rL rL rfl rL rL kq ?_;refine qX 1 ?_ ?_;refine aD (b:=(s.tabs.all (fun x=>x.key.all (aW x.cols) && x.refs.all (fun r=>cY s.tabs r.tab && aW x.cols r.col)))) (.inr rfl) kq ?_
 . rfl
 iterate 4 kernel_rfl
abbrev S9 (c:Co):List aa:=[.str c.name,.int .i64 (c.type.kind),.str c.type.name,.int .i64 (c.type.n),.imm (c.type.names.map aa.str),.imm (c.type.kids.map Ty.enc)]
theorem G7 (s:Sc) (c:Co) (b:Bool) (h:ae cx 136 [.imm (s.sums.map Sm.v),c.type.v] (.bool b)):av cx 135 [Co.v c,.ptr 0 0] (AG s) (fun v h=>v=(.bool (b))/\h=(AG s)):=by
 refine fI 9 1 [oe] Tryz.func135 kq ?_;refine zZ (fun _=>[(0,Co.v c),(1,.ptr 0 0)]) (fun _=>(eg s)) ?_ ?_;apply zW 2 N0 (mH [] [.box (S9 c)]);apply zV 4;refine qP (h) aE aE aE kq ?_;refine zR 1 (fun _=>[(3,.bool (b))]) (fun _=>[.box (eB s),.box (S9 c)]) ?_ ?_;refine aJ kq ?_;refine aO (l:=[.bool (b)]) (.inr rfl) kq (by rfl) aQ aQ ?_ ?_;refine Eq.trans (b:=(eg s)) kq ?_
 . rfl
 . simp [am.belO,aa.bel,aC,Ty.v,Ex.v,Ct.v,Co.v,Rf.v,Sm.v,Tb.v_cs,Sc.v,Md.v,Pb.v,Ls.v,-List.map_take,-List.map_drop,-List.map_append]
 iterate 4 kernel_rfl
theorem MU (s:Sc) (t:Tb) (U:Ty->Bool) (ht:t.ok) (h:∀ c∈t.cols,ae cx 136 [.imm (s.sums.map Sm.v),c.type.v] (.bool (U c.type))):av cx 134 [Tb.v t,.ptr 0 0] (AG s) (fun v h=>v=(.bool (t.cols.all (fun c=>U c.type)))/\h=(AG s)):=by
 have h1:=ht.c;refine fI 8 1 [oe] Tryz.func134 kq ?_;refine zZ (fun _=>[(0,Tb.v t),(1,.ptr 0 0)]) (fun _=>(eg s)) ?_ ?_;apply zW 2 N0 (mH [] [.box (Tb.cs t)]);apply zV 3;refine qA (hs:=(eg s)) (hs':=(eg s)) (K3 t.cols 135 (fun x=>U x.type) _ ⟨fun x hx=>G7 s x _ (h x hx),um,ar⟩) iy iy rfl iy iy kq ?_;refine zR 1 (fun _=>[(3,.bool (t.cols.all (fun x=>U x.type)))]) (fun _=>(ve s t)) ?_ ?_;refine aJ kq ?_;refine aO (l:=[.bool (t.cols.all (fun x=>U x.type))]) (.inr rfl) kq (by rfl) aQ aQ ?_ ?_;refine Eq.trans (b:=(eg s)) kq ?_
 . rfl
 . simp [am.belO,aa.bel,aC,Ty.v,Ex.v,Ct.v,Co.v,Rf.v,Sm.v,Tb.v_cs,Sc.v,Md.v,Pb.v,Ls.v,-List.map_take,-List.map_drop,-List.map_append]
 iterate 4 kernel_rfl
theorem uz (D J O:List UInt8->Bool) (X:Ct->Bool) (U:Ty->Bool) (Y:Ex->Int) (s:Sc) (hv:kx D J O X U Y s):ae cx 53 [Sc.v s] (.bool (k5 U s)):=by
 have h1:=hv.n;have h2:=hv.t;have h3:=hv.all;refine fI 7 0 [pR] Tryz.func53 kq ?_;refine zZ (fun _=>[(0,Sc.v s)]) (fun _=>[]) ?_ ?_;refine zW 2 (fun _=>mX) (fun _=>(eg s)) ?_ ?_;apply zV 3;refine qA (hs:=(eg s)) (hs':=(eg s)) (xV s.tabs 134 (fun x=>x.cols.all (fun c=>U c.type)) _ ⟨fun x hx=>MU s x U (hv.ok x hx) (hv.st x hx),um,ar⟩) rL rL rfl rL rL kq ?_;refine qX 1 ?_ ?_;refine aD (b:=(s.tabs.all (fun x=>x.cols.all (fun c=>U c.type)))) (.inr rfl) kq ?_
 . rfl
 iterate 4 kernel_rfl
abbrev UV (t:Tb)(r:Rf):List aa:=[.str (cp t.cols r.col).name,.int .i64 ((cp t.cols r.col).type.kind),.str (cp t.cols r.col).type.name,.int .i64 ((cp t.cols r.col).type.n),.imm ((cp t.cols r.col).type.names.map aa.str),.imm ((cp t.cols r.col).type.kids.map Ty.enc)]
theorem KJ (t:Tb) (s:Sc) (r:Rf) (ht:t.ok) (hz1:s.tabs.length<=100) (hz2:∀ t∈s.tabs,t.ok):av cx 138 [Rf.v r,.ptr 1 0,.ptr 0 0] (Lm s t) (fun v h=>v=(.bool (tgt (cg s.tabs r.tab) (cp t.cols r.col).type))/\h=(Lm s t)):=by
 have h1:=ht.c;have hto:=sg hz2 r.tab;have hto1:=hto.c;refine fI 28 2 [fw] Tryz.func138 kq ?_;refine zZ (fun _=>[(0,Rf.v r),(1,.ptr 1 0),(2,.ptr 0 0)]) (fun _=>(ve s t)) ?_ ?_;apply zW 2 (mT [(3,.ptr 2 0)] [0]) (mH [] (rg r));apply zV 4;refine qP (fB t.cols r.col (by first|omega|exact ht.co _)) aE aE aE kq ?_;apply zR 6 (mT [(5,.ptr 3 0)] [1]) (mH [] [.box (UV t r)]);apply zV 3;refine qP (tK s r.tab hz1 hz2) aE aE aE kq ?_;apply zR 6 (mT [(7,.ptr 4 0)] [2,3]) (mH [] [.box (Ji s r)]);apply zV 3;refine qP (qE (cg s.tabs r.tab) ((cp t.cols r.col).type) oq hto.co) aE aE aE kq ?_;refine zR 1 (fun _=>[(4,.bool (tgt (cg s.tabs r.tab) ((cp t.cols r.col).type)))]) (fun _=>[.box (eB s),.box (Tb.cs t),.box [.str r.col,.str r.tab],.box (UV t r),.box (Ji s r)]) ?_ ?_;refine aJ kq ?_;refine aO (l:=[.bool (tgt (cg s.tabs r.tab) ((cp t.cols r.col).type))]) (.inr rfl) kq (by rfl) aQ aQ ?_ ?_;refine Eq.trans (b:=(ve s t)) kq ?_
 . rfl
 . simp [am.belO,aa.bel,aC,Ty.v,Ex.v,Ct.v,Co.v,Rf.v,Sm.v,Tb.v_cs,Sc.v,Md.v,Pb.v,Ls.v,-List.map_take,-List.map_drop,-List.map_append]
 iterate 8 kernel_rfl
theorem Ns (t:Tb) (s:Sc) (ht:t.ok) (hz1:s.tabs.length<=100) (hz2:∀ t∈s.tabs,t.ok):av cx 137 [Tb.v t,.ptr 0 0] (AG s) (fun v h=>v=(.bool (t.refs.all (fun r=>tgt (cg s.tabs r.tab) (cp t.cols r.col).type)))/\h=(AG s)):=by
 have h3:=ht.r;refine fI 8 1 [oe] Tryz.func137 kq ?_;refine zZ (fun _=>[(0,Tb.v t),(1,.ptr 0 0)]) (fun _=>(eg s)) ?_ ?_;apply zW 2 N0 (mH [] [.box (Tb.cs t)]);apply zV 3;refine qA (hs:=(ve s t)) (hs':=(ve s t)) (LL t.refs 138 (fun x=>tgt (cg s.tabs x.tab) (cp t.cols x.col).type) _ _ ⟨fun x hx=>KJ t s x ht hz1 hz2,um,um,ar⟩) iy iy rfl iy iy kq ?_;refine zR 1 (fun _=>[(3,.bool (t.refs.all (fun x=>tgt (cg s.tabs x.tab) (cp t.cols x.col).type)))]) (fun _=>(ve s t)) ?_ ?_;refine aJ kq ?_;refine aO (l:=[.bool (t.refs.all (fun x=>tgt (cg s.tabs x.tab) (cp t.cols x.col).type))]) (.inr rfl) kq (by rfl) aQ aQ ?_ ?_;refine Eq.trans (b:=(eg s)) kq ?_
 . rfl
 . simp [am.belO,aa.bel,aC,Ty.v,Ex.v,Ct.v,Co.v,Rf.v,Sm.v,Tb.v_cs,Sc.v,Md.v,Pb.v,Ls.v,-List.map_take,-List.map_drop,-List.map_append]
 iterate 4 kernel_rfl
theorem s4 (D J O:List UInt8->Bool) (X:Ct->Bool) (U:Ty->Bool) (Y:Ex->Int) (s:Sc) (hv:kx D J O X U Y s):ae cx 54 [Sc.v s] (.bool (lr s)):=by
 have h1:=hv.n;have h2:=hv.t;have h3:=hv.all;refine fI 7 0 [pR] Tryz.func54 kq ?_;refine zZ (fun _=>[(0,Sc.v s)]) (fun _=>[]) ?_ ?_;refine zW 2 (fun _=>mX) (fun _=>(eg s)) ?_ ?_;apply zV 3;refine qA (hs:=(eg s)) (hs':=(eg s)) (xV s.tabs 137 (fun x=>x.refs.all (fun r=>tgt (cg s.tabs r.tab) (cp x.cols r.col).type)) _ ⟨fun x hx=>Ns x s (hv.ok x hx) hv.t hv.ok,um,ar⟩) rL rL rfl rL rL kq ?_;refine qX 1 ?_ ?_;refine aD (b:=(s.tabs.all (fun x=>x.refs.all (fun r=>tgt (cg s.tabs r.tab) (cp x.cols r.col).type)))) (.inr rfl) kq ?_
 . rfl
 iterate 4 kernel_rfl
def gY (D J O:List UInt8->Bool) (X:Ct->Bool) (U:Ty->Bool) (Y:Ex->Int) (s:Sc):Int :=
 bif !k7 s then 4 else bif !hX D J O s then 6 else bif !gh s then 8 else bif !fD X Y s then 1 else bif !ie s then 7 else bif !k5 U s then 9 else bif !lr s then 12 else 0
theorem U5 {s:Sc} (h:((s.tabs.length:Nat):Int) > 8):k7 s=false:=by
 unfold k7;rw [Bool.eq_false_iff.2 (fun q:Nat.ble s.tabs.length 8=true=>by rw [iw] at q;omega)];rfl
theorem UM {s:Sc} (h:¬ ((s.tabs.length:Nat):Int) > 8):k7 s=s.tabs.all (fun x=>Nat.ble x.cols.length 8):=by
 unfold k7;rw [iw.2 oq];rfl
theorem Hh {D J O:List UInt8->Bool} {X:Ct->Bool} {U:Ty->Bool} {Y:Ex->Int} {s:Sc}:gY D J O X U Y s=0↔Vld D J O X U Y s:=by
 constructor
 . intro h;unfold gY at h;cases h1:k7 s <;> cases h2:hX D J O s <;> cases h3:gh s <;> cases h4:fD X Y s <;> cases h5:ie s <;> cases h6:k5 U s <;> cases h7:lr s <;> simp [h1,h2,h3,h4,h5,h6,h7] at h
   exact ⟨h1,h2,h3,h4,h5,h6,h7⟩
 . rintro ⟨h1,h2,h3,h4,h5,h6,h7⟩;unfold gY;rw [h1,h2,h3,h4,h5,h6,h7];rfl
abbrev QB (s:Sc):=!(s.tabs.all (fun x=>Nat.ble x.cols.length 8))
theorem ng (D J O:List UInt8->Bool) (X:Ct->Bool) (U:Ty->Bool) (Y:Ex->Int) (s:Sc) (hv:kx D J O X U Y s):ae cx 19 [Sc.v s] (.int .i64 (gY D J O X U Y s)):=by
 have h1:=hv.n;have h2:=hv.t;have h3:=hv.all;refine fI 38 0 [pR] Tryz.func19 kq ?_;refine zZ (fun _=>[(0,Sc.v s)]) (fun _=>[]) ?_ ?_;apply zW 2 AS (mH [] (eg s));apply ai;apply qB 0;apply zV 2;refine qy (aj (l:=s.tabs) (enc:=Tb.v) kq cD) ?_ ?_ ?_;apply qr 2;by_cases hb1:((s.tabs.length:Nat):Int) > 8;refine zm [7,8] (decide_eq_true hb1) ?_ ?_;refine zR 6 (fun _=>[(1,.ptr 0 0),(3,.bool true)]) (fun _=>(eg s)) ?_ ?_;refine ga kq kq ?_;apply zV 1;refine qT ?_ ?_;apply iR;apply aR;refine dm (n:=4) (.inr rfl) kq ?_
 rotate_left
 iterate 4 kernel_rfl
 refine zm [7,8] (decide_eq_false hb1) ?_ ?_;apply qr 2;refine qP (sf s.tabs 48 (fun x=>Nat.ble x.cols.length 8) ⟨fun x hx=>Nh x (hv.ok x hx),ar⟩) aE aE aE kq ?_;apply zR 3 (mU [(3,.bool (QB s))]) id;by_cases hb2:(s.tabs.all (fun x=>Nat.ble x.cols.length 8))=true;refine qf (x:=(QB s)) (congrArg not (hb2)) ?_ ?_;apply zV 1;refine qP (xH D J O X U Y s hv) aE aE aE kq ?_;apply zR 2 (mT [(14,.bool (!(hX D J O s)))] [3]) id;by_cases hb3:(hX D J O s)=true;refine qf (x:=(!(hX D J O s))) (congrArg not (hb3)) ?_ ?_;apply zV 1;refine qP (uT D J O X U Y s hv) aE aE aE kq ?_;apply zR 2 (mT [(18,.bool (!(gh s)))] [14]) id;by_cases hb4:(gh s)=true;refine qf (x:=(!(gh s))) (congrArg not (hb4)) ?_ ?_;apply zV 1;refine qP (z7 D J O X U Y s hv) aE aE aE kq ?_;apply zR 2 (mT [(22,.bool (!(fD X Y s)))] [18]) id;by_cases hb5:(fD X Y s)=true;refine qf (x:=(!(fD X Y s))) (congrArg not (hb5)) ?_ ?_;apply zV 1;refine qP (B2 D J O X U Y s hv) aE aE aE kq ?_;apply zR 2 (mT [(26,.bool (!(ie s)))] [22]) id;by_cases hb6:(ie s)=true;refine qf (x:=(!(ie s))) (congrArg not (hb6)) ?_ ?_;apply zV 1;refine qP (uz D J O X U Y s hv) aE aE aE kq ?_;apply zR 2 (mT [(30,.bool (!(k5 U s)))] [26]) id;by_cases hb7:(k5 U s)=true;refine qf (x:=(!(k5 U s))) (congrArg not (hb7)) ?_ ?_;apply zV 1;refine qP (s4 D J O X U Y s hv) aE aE aE kq ?_;refine zR 2 (fun _=>[(34,.bool (!(lr s)))]) id ?_ ?_;by_cases hb8:(lr s)=true;refine qf (x:=(!(lr s))) (congrArg not (hb8)) ?_ ?_;refine qk ?_ ?_;refine ag ?_;apply ab;refine zZ (fun _=>[]) (fun _=>(eg s)) ?_ ?_;apply zV 1;refine qT ?_ ?_;refine dm (n:=0) (.inr rfl) kq ?_
 rotate_left
 iterate 5 kernel_rfl
 refine qt (x:=(!(lr s))) (congrArg not (Bool.eq_false_iff.2 hb8)) ?_ ?_;apply zV 1;refine qT ?_ ?_;apply iR;apply aR;refine dm (n:=12) (.inr rfl) kq ?_
 rotate_left
 iterate 6 kernel_rfl
 refine qt (x:=(!(k5 U s))) (congrArg not (Bool.eq_false_iff.2 hb7)) ?_ ?_;apply zV 1;refine qT ?_ ?_;apply iR;apply aR;refine dm (n:=9) (.inr rfl) kq ?_
 rotate_left
 iterate 6 kernel_rfl
 refine qt (x:=(!(ie s))) (congrArg not (Bool.eq_false_iff.2 hb6)) ?_ ?_;apply zV 1;refine qT ?_ ?_;apply iR;apply aR;refine dm (n:=7) (.inr rfl) kq ?_
 rotate_left
 iterate 6 kernel_rfl
 refine qt (x:=(!(fD X Y s))) (congrArg not (Bool.eq_false_iff.2 hb5)) ?_ ?_;apply zV 1;refine qT ?_ ?_;apply iR;apply aR;refine dm (n:=1) (.inr rfl) kq ?_
 rotate_left
 iterate 6 kernel_rfl
 refine qt (x:=(!(gh s))) (congrArg not (Bool.eq_false_iff.2 hb4)) ?_ ?_;apply zV 1;refine qT ?_ ?_;apply iR;apply aR;refine dm (n:=8) (.inr rfl) kq ?_
 rotate_left
 iterate 6 kernel_rfl
 refine qt (x:=(!(hX D J O s))) (congrArg not (Bool.eq_false_iff.2 hb3)) ?_ ?_;apply zV 1;refine qT ?_ ?_;apply iR;apply aR;refine dm (n:=6) (.inr rfl) kq ?_
 rotate_left
 iterate 6 kernel_rfl
 refine qt (x:=(QB s)) (congrArg not (Bool.eq_false_iff.2 hb2)) ?_ ?_;apply zV 1;refine qT ?_ ?_;apply iR;apply aR;refine dm (n:=4) (.inr rfl) kq ?_
 rotate_left
 iterate 15 kernel_rfl
 all_goals
  first|(rw [gY,U5 aq];rfl)|(rw [gY,UM aq];simp [*];done)
section
variable {α β:Type} (L:List α) (z:α) (sub:α->List β) (zb:β) (b0:Bool) (q:α->Bool) (p:α->β->Bool)
def oA (i:Nat):Bool:=b0 || (L.take i).any (fun x=>q x || (sub x).any (p x))
def oB (i k:Nat):Bool:=oA L sub b0 q p i || (q (L.getD i z) || ((sub (L.getD i z)).take k).any (p (L.getD i z)))
theorem xI:oA L sub b0 q p 0=b0:=by simp [oA]
theorem Gj (i:Nat):oB L z sub b0 q p i 0=(oA L sub b0 q p i || q (L.getD i z)):=by simp [oB]
theorem DX {γ:Type} (l:List γ) (d:γ) (r:γ->Bool) {k:Nat} (h:k<l.length):(l.take (k+1)).any r=((l.take k).any r || r (l.getD k d)):=by
 rw [cI l d k h];simp
theorem Gc {i k:Nat} (h:k<(sub (L.getD i z)).length):oB L z sub b0 q p i (k+1)=(oB L z sub b0 q p i k || p (L.getD i z) ((sub (L.getD i z)).getD k zb)):=by
 unfold oB;rw [DX _ zb _ h];simp [Bool.or_assoc]
theorem FL {i k:Nat} (hi:i<L.length) (h:(sub (L.getD i z)).length<=k):oB L z sub b0 q p i k=oA L sub b0 q p (i+1):=by
 unfold oB oA;rw [DX L z _ hi,List.take_of_length_le h];simp [Bool.or_assoc]
theorem Rz {i:Nat} (hi:i<L.length):oA L sub b0 q p (i+1)=(oA L sub b0 q p i || (q (L.getD i z) || (sub (L.getD i z)).any (p (L.getD i z)))):=by
 unfold oA;rw [DX L z _ hi];simp [Bool.or_assoc]
theorem w4 {i:Nat} (h:L.length<=i):oA L sub b0 q p i=(b0 || L.any (fun x=>q x || (sub x).any (p x))):=by
 unfold oA;rw [List.take_of_length_le h]
end
section
variable (D J O:List UInt8->Bool) (X:Ct->Bool) (U:Ty->Bool) (Y:Ex->Int) (s:Sc)
abbrev zU:Tb->List Bool:=fun _=>[]
abbrev zP:Tb->Bool->Bool:=fun _ _=>false
def fN1:Nat->Bool:=oA s.sums Sm.ctors false (fun x=>!D x.name) (fun _ c=>!J c.name)
def xe:Nat->Nat->Bool:=oB s.sums Sm.zero Sm.ctors false (fun x=>!D x.name) (fun _ c=>!J c.name)
def fF1:Nat->Bool:=oA s.sums Sm.ctors false (fun x=>x.ctors.isEmpty) (fun _ c=>!X c)
def yd:Nat->Nat->Bool:=oB s.sums Sm.zero Sm.ctors false (fun x=>x.ctors.isEmpty) (fun _ c=>!X c)
def fN2:Nat->Bool:=oA s.tabs Tb.cols (fN1 D J s s.sums.length) (fun t=>!O t.name) (fun _ c=>!O c.name)
def gH:Nat->Nat->Bool:=oB s.tabs Tb.zero Tb.cols (fN1 D J s s.sums.length) (fun t=>!O t.name) (fun _ c=>!O c.name)
def fL:Nat->Bool:=oA s.tabs zU (Nat.blt 8 s.tabs.length) (fun t=>Nat.blt 8 t.cols.length) zP
def fF2:Nat->Bool:=oA s.tabs zU (fF1 X s s.sums.length) (fun t=>bn t || !(Y t.chk==0)) zP
def fK:Nat->Bool:=oA s.tabs Tb.cols false (fun _=>false) (fun _ c=>!U c.type)
def fKk:Nat->Nat->Bool:=oB s.tabs Tb.zero Tb.cols false (fun _=>false) (fun _ c=>!U c.type)
def fO:Nat->Bool:=oA s.tabs Tb.refs false (fun t=>t.key.any (fun n=>!aW t.cols n)) (fun t r=>!aW t.cols r.col || !cY s.tabs r.tab)
def fOk:Nat->Nat->Bool:=oB s.tabs Tb.zero Tb.refs false (fun t=>t.key.any (fun n=>!aW t.cols n)) (fun t r=>!aW t.cols r.col || !cY s.tabs r.tab)
def fOn (i k:Nat):Bool:=fO s i || ((s.tabs.getD i Tb.zero).key.take k).any (fun n=>!aW (s.tabs.getD i Tb.zero).cols n)
def fR:Nat->Bool:=oA s.tabs Tb.refs false (fun _=>false) (fun t r=>aW t.cols r.col && (cY s.tabs r.tab && !tgt (cg s.tabs r.tab) (cp t.cols r.col).type))
def fRk:Nat->Nat->Bool:=oB s.tabs Tb.zero Tb.refs false (fun _=>false) (fun t r=>aW t.cols r.col && (cY s.tabs r.tab && !tgt (cg s.tabs r.tab) (cp t.cols r.col).type))
def fT:Nat->Bool:=oA s.tabs zU false (fun t=>bA (t.cols.map Co.name) || (bA t.key || bA (t.refs.map Rf.col))) zP
theorem Tl (i:Nat):fOn s i 0=fO s i:=by simp [fOn]
theorem SK {i k:Nat} (h:k<(s.tabs.getD i Tb.zero).key.length):fOn s i (k+1)=(fOn s i k || !aW (s.tabs.getD i Tb.zero).cols ((s.tabs.getD i Tb.zero).key.getD k [])):=by
 unfold fOn;rw [DX _ [] _ h];simp [Bool.or_assoc]
theorem SC {i k:Nat} (h:(s.tabs.getD i Tb.zero).key.length<=k):fOn s i k=fOk s i 0:=by
 unfold fOn fOk;rw [Gj,List.take_of_length_le h];rfl
theorem dZ {γ:Type} (l:List γ) (r:γ->Bool):l.all r=!l.any (fun x=>!r x):=by
 rw [List.all_eq_not_any_not]
def fl7:List Bool:=[fL s s.tabs.length,fN2 D J O s s.tabs.length,bA (s.sums.map Sm.name) || (bA ((ba s.sums).map Ct.name) || bA (s.tabs.map Tb.name)) || fT s s.tabs.length,fF2 X Y s s.tabs.length || (!eP (s.sums.map Sm.name) || !eP (s.tabs.map Tb.name)),fO s s.tabs.length,fK U s s.tabs.length,fR s s.tabs.length]
def mc:List Int:=[4,6,8,1,7,9,12]
def rvl:List Bool->List Int->Int
 | b::l,e::r=>bif b then e else rvl l r
 | _,_=>0
theorem Eh {a b:Nat}:Nat.blt a b=!Nat.ble b a:=by
 rw [Bool.eq_iff_iff,Bool.not_eq_true',Nat.blt_eq,<- Bool.not_eq_true,iw];omega
theorem SZ:fL s s.tabs.length=!k7 s:=by
 unfold fL k7;rw [w4 _ _ _ _ _ (Nat.le_refl _),Bool.not_and,<- Eh,dZ,Bool.not_not];congr 1;congr 1;funext t;simp [zU,Eh]
theorem Ub:fN2 D J O s s.tabs.length=!hX D J O s:=by
 unfold fN2 fN1 hX;rw [w4 _ _ _ _ _ (Nat.le_refl _),w4 _ _ _ _ _ (Nat.le_refl _)]
 have e1:∀ l:List Sm,l.any (fun x=>!D x.name || x.ctors.any (fun c=>!J c.name))=!(l.all (fun x=>D x.name) && (ba l).all (fun c=>J c.name)):=by
  intro l
  induction l with
  | nil=>rfl
  | cons x l ih=>rw [List.any_cons,ih];simp only [ba,List.flatMap_cons,List.all_append,List.all_cons,dZ x.ctors];cases D x.name <;> cases x.ctors.any (fun c=>!J c.name) <;> simp
 have e2:∀ l:List Tb,l.any (fun x=>!O x.name || x.cols.any (fun c=>!O c.name))=!(l.all (fun t=>O t.name && t.cols.all (fun c=>O c.name))):=by
  intro l;rw [dZ,Bool.not_not];congr 1;funext t;rw [dZ,Bool.not_and,Bool.not_not]
 rw [e1,e2,Bool.false_or,<- Bool.not_and,Bool.and_assoc]
theorem Uw:(fF2 X Y s s.tabs.length || (!eP (s.sums.map Sm.name) || !eP (s.tabs.map Tb.name)))=!fD X Y s:=by
 unfold fF2 fF1 fD;rw [w4 _ _ _ _ _ (Nat.le_refl _),w4 _ _ _ _ _ (Nat.le_refl _)]
 have e1:∀ l:List Sm,l.any (fun x=>x.ctors.isEmpty || x.ctors.any (fun c=>!X c))=!(l.all (fun x=>!x.ctors.isEmpty) && (ba l).all X):=by
  intro l
  induction l with
  | nil=>rfl
  | cons x l ih=>rw [List.any_cons,ih];simp only [ba,List.flatMap_cons,List.all_append,List.all_cons,dZ x.ctors];cases x.ctors.isEmpty <;> cases x.ctors.any (fun c=>!X c) <;> simp
 have e2:∀ l:List Tb,l.any (fun t=>bn t || !(Y t.chk==0) || (zU t).any (zP t))=!(l.all (fun t=>!bn t && Y t.chk==0)):=by
  intro l;rw [dZ,Bool.not_not];congr 1;funext t;simp [zU]
 rw [e1,e2,Bool.false_or];cases eP (s.sums.map Sm.name) <;> cases eP (s.tabs.map Tb.name) <;> simp [Bool.and_assoc,Bool.or_assoc]
theorem Sl:fK U s s.tabs.length=!k5 U s:=by
 unfold fK k5;rw [w4 _ _ _ _ _ (Nat.le_refl _),Bool.false_or,dZ,Bool.not_not];congr 1;funext t;rw [dZ];simp
theorem Vj:(bA (s.sums.map Sm.name) || (bA ((ba s.sums).map Ct.name) || bA (s.tabs.map Tb.name)) || fT s s.tabs.length)=!gh s:=by
 unfold fT gh;rw [w4 _ _ _ _ _ (Nat.le_refl _),Bool.false_or]
 have e:∀ l:List Tb,l.any (fun t=>bA (t.cols.map Co.name) || (bA t.key || bA (t.refs.map Rf.col)) || (zU t).any (zP t))=!(l.all fun t=>!bA (t.cols.map Co.name) && (!bA t.key && !bA (t.refs.map Rf.col))):=by
  intro l;rw [dZ,Bool.not_not];congr 1;funext t;simp [zU]
 rw [e];cases bA (s.sums.map Sm.name) <;> cases bA ((ba s.sums).map Ct.name) <;> cases bA (s.tabs.map Tb.name) <;> simp
theorem VE:fO s s.tabs.length=!ie s:=by
 unfold fO ie;rw [w4 _ _ _ _ _ (Nat.le_refl _),Bool.false_or,dZ,Bool.not_not];congr 1;funext t;rw [dZ,dZ,Bool.not_and,Bool.not_not,Bool.not_not];congr 1;congr 1;funext r;cases cY s.tabs r.tab <;> cases aW t.cols r.col <;> rfl
theorem UZ (h:ie s=true):fR s s.tabs.length=!lr s:=by
 unfold fR lr;rw [w4 _ _ _ _ _ (Nat.le_refl _),Bool.false_or];simp only [ie,Bool.and_eq_true,List.all_eq_true] at h;rw [dZ,Bool.not_not,Bool.eq_iff_iff,List.any_eq_true,List.any_eq_true];constructor
 . rintro ⟨t,ht,q⟩;refine ⟨t,ht,?_⟩;rw [Bool.false_or,List.any_eq_true] at q;obtain ⟨r,hr,q⟩:=q;rw [dZ,Bool.not_not,List.any_eq_true];refine ⟨r,hr,?_⟩;rw [Bool.and_eq_true,Bool.and_eq_true] at q;exact q.2.2
 . rintro ⟨t,ht,q⟩;refine ⟨t,ht,?_⟩;rw [dZ,Bool.not_not,List.any_eq_true] at q;obtain ⟨r,hr,q⟩:=q;rw [Bool.false_or,List.any_eq_true];have:=(h t ht).2 r hr;exact ⟨r,hr,by rw [this.1,this.2,q];rfl⟩
theorem Hk:rvl (fl7 D J O X U Y s) mc=gY D J O X U Y s:=by
 unfold fl7 gY mc;rw [SZ,Ub,Vj,Uw,VE,Sl];cases h:ie s with
 | false=>simp [rvl]
 | true=>rw [UZ s h];simp [rvl]
end
theorem SY {l:List ej} {k:Nat} (hk:k<l.length) (h:dJ ((l.take k).drop 0) (l.getD k []) >= 0):bA l=true:=by
 rw [List.drop_zero] at h;cases e:bA l with
 | true=>rfl
 | false =>
  have:=(De l).1 (fN.1 e) k hk;rw [<- gB,decide_eq_false_iff_not] at this;exact absurd h this
theorem Sy {l:List ej} (ha:∀ k,k<l.length->¬ dJ ((l.take k).drop 0) (l.getD k []) >= 0):bA l=false :=
 fN.2 ((De l).2 fun k hk=>by rw [<- gB];exact decide_eq_false (by have:=ha k hk;rwa [List.drop_zero] at this))
theorem Wl {l:List ej} {i:Nat} (ha:∀ k,k+1<i->k+1<l.length->aS (l.getD (k+1) []) (l.getD k [])=false) (h:¬ ((i:Nat):Int)<((l.length:Nat):Int)):eP l=true:=(j8 l).2 fun k hk=>ha k oq hk
theorem V8 {l:List ej} {i:Nat} (h1:1<=i) (ha:∀ k,k+1<i->k+1<l.length->aS (l.getD (k+1) []) (l.getD k [])=false) (hn:¬ aS (l.getD i []) (l.getD (((i:Nat):Int) - 1).toNat [])=true):∀ k,k+1<i+1->k+1<l.length->aS (l.getD (k+1) []) (l.getD k [])=false:=by
 intro k h2 h3;by_cases e:k+1<i
 . exact ha k e h3
 . have e2:i=k+1:=by omega
   subst e2;rw [show (((k+1:Nat):Int) - 1).toNat=k by omega] at hn;simpa using hn
theorem Xn {l:List ej} {i:Nat} (h1:1<=i) (hi:i<l.length) (hn:aS (l.getD i []) (l.getD (((i:Nat):Int) - 1).toNat [])=true):eP l=false:=by
 cases e:eP l with
 | false=>rfl
 | true =>
  have:=(j8 l).1 e (i - 1) oq;rw [show (((i:Nat):Int) - 1).toNat=i - 1 by omega] at hn;rw [show i - 1+1=i by omega,hn] at this;cases this
theorem ke (l:List ej) (hn:l.length<1000000000):ae cx 141 (yi l) (.bool (bA l)):=by
 refine fI 19 0 [pR] Tryz.func141 kq ?_;refine zZ (fun _=>[(0,.imm (f7 l))]) (fun _=>[]) ?_ ?_;apply zW 1 id id;apply ai;apply zW 1 (mU [(3,.int .i64 0)]) id;apply qB 0;refine aT (σ:=Nat) (fun k=>[(0,.imm (f7 l)),(3,nI k)]) (fun k=>[]) (fun k=>k<=l.length/\∀ i,i<k->¬ dJ ((l.take i).drop 0) (l.getD i []) >= 0) (fun k=>l.length - k) 0 kq rA (fg kq kq aA iy) ?_;rintro k ⟨hk,ha⟩;apply ai;apply zV 2;refine qy (aj (l:=l) (enc:=aa.str) kq a6) ?_ ?_ ?_;apply zR 1 (mU [(7,.bool (decide (((k:Nat):Int)<((l.length:Nat):Int))))]) id;by_cases hb1:((k:Nat):Int)<((l.length:Nat):Int);apply qt (decide_eq_true hb1);apply qK;apply zZ (mT [] [7]) id;apply ai;apply qB 1;apply ai;refine zD cxM kq ax ?_;apply qu 2;refine qd (ec (lo:=none) (hi:=(some (nI k))) (l:=l) (enc:=aa.str) (x:=0) (y:=((k:Nat):Int)) kq a6 ty9 (fun _=>rfl) kq kq ar ar ar) ?_ ?_ ?_ ?_;apply qu 2;refine qd (au (k:=.i64) (l:=l) (enc:=aa.str) (i:=((k:Nat):Int)) [] kq a6 ty9 (fun _=>rfl) ar ar) ?_ ?_ ?_ ?_;apply qu 1;refine qQ (yT ((l.take k).drop 0) (l.getD k []) ar) aE aE aE kq ?_;apply qu 1;refine bY kq ⟨kq,?_⟩;refine zE (fun _=>[(0,.imm (f7 l)),(3,nI k),(18,.bool (decide ((dJ ((l.take k).drop 0) (l.getD k [])) >= 0)))]) (fun _=>[]) ?_ ?_;by_cases hb2:(dJ ((l.take k).drop 0) (l.getD k [])) >= 0;apply qt (decide_eq_true hb2);apply zV 1;refine qT ?_ ?_;apply iR;apply aR;apply aR;apply iR;apply aR;refine aD (b:=true) (.inr rfl) kq ?_
 rotate_left
 iterate 3 kernel_rfl
 apply qf (decide_eq_false hb2);refine qk ?_ ?_;refine ag ?_;apply ab;apply zZ (mT [] [18]) id;apply qo;apply qr 1;refine qy (az (a:=((k:Nat):Int)) (b:=1) kq ar ar) ?_ ?_ ?_;apply qr 1;apply qe;refine ab ⟨k+1,?_,?_,(fg kq kq aA iy)⟩
 . omega
 . refine ⟨by omega,fun i hi=>?_⟩;rcases Nat.lt_succ_iff_lt_or_eq.1 hi with h|h
   . exact ha i h
   . subst h;assumption
 iterate 27 kernel_rfl
 apply qf (decide_eq_false hb1);refine aK 0 kq kq ?_;apply ac;apply ac;refine ao ?_;apply ab;refine zZ (fun _=>[]) (fun _=>[]) ?_ ?_;apply zV 1;refine qT ?_ ?_;refine aD (b:=false) (.inr rfl) kq ?_
 rotate_left
 iterate 15 kernel_rfl
 all_goals
  first|exact (SY (k:=k) oq aq).symm|exact (Sy (fun i hi=>ha i oq)).symm
theorem wt (l:List ej) (hn:l.length<1000000000):ae cx 142 (yi l) (.bool (eP l)):=by
 refine fI 20 0 [pR] Tryz.func142 kq ?_;refine zZ (fun _=>[(0,.imm (f7 l))]) (fun _=>[]) ?_ ?_;apply zW 1 id id;apply ai;apply zW 1 (mU [(3,.int .i64 1)]) id;apply qB 0;refine aT (σ:=Nat) (fun i=>[(0,.imm (f7 l)),(3,nI i)]) (fun i=>[]) (fun i=>1<=i/\∀ k,k+1<i->k+1<l.length->aS (l.getD (k+1) []) (l.getD k [])=false) (fun i=>l.length - i) 1 kq (by exact ⟨Nat.le_refl _,fun k h=>by omega⟩) (fg kq kq aA iy) ?_;rintro i ⟨hi,ha⟩;apply ai;apply zV 2;refine qy (aj (l:=l) (enc:=aa.str) kq a6) ?_ ?_ ?_;apply zR 1 (mU [(7,.bool (decide (((i:Nat):Int)<((l.length:Nat):Int))))]) id;by_cases hb1:((i:Nat):Int)<((l.length:Nat):Int);apply qt (decide_eq_true hb1);apply qK;apply zZ (mT [] [7]) id;apply ai;apply qB 1;apply ai;refine zD cxM kq ax ?_;apply qu 2;refine qd (au (k:=.i64) (l:=l) (enc:=aa.str) (i:=((i:Nat):Int)) [] kq a6 ty9 (fun _=>rfl) ar ar) ?_ ?_ ?_ ?_;apply qu 3;refine qd (eZ (a:=((i:Nat):Int)) (b:=1) kq ar ar) ?_ ?_ ?_ ?_;refine qd (au (k:=.i64) (l:=l) (enc:=aa.str) (i:=(((i:Nat):Int) - 1)) [] kq a6 ty9 (fun _=>rfl) ar ar) ?_ ?_ ?_ ?_;apply qu 2;refine bY kq ⟨kq,?_⟩;refine zE (fun _=>[(0,.imm (f7 l)),(3,nI i),(19,.bool (aS (l.getD i []) (l.getD (((((i:Nat):Int) - 1)).toNat) [])))]) (fun _=>[]) ?_ ?_;by_cases hb2:(aS (l.getD i []) (l.getD (((((i:Nat):Int) - 1)).toNat) []))=true;apply qt (hb2);apply zV 1;refine qT ?_ ?_;apply iR;apply aR;apply aR;apply iR;apply aR;refine aD (b:=false) (.inr rfl) kq ?_
 rotate_left
 iterate 3 kernel_rfl
 apply qf (Bool.eq_false_iff.2 hb2);refine qk ?_ ?_;refine ag ?_;apply ab;apply zZ (mT [] [19]) id;apply qo;apply qr 1;refine qy (az (a:=((i:Nat):Int)) (b:=1) kq ar ar) ?_ ?_ ?_;apply qr 1;apply qe;refine ab ⟨i+1,?_,?_,(fg kq kq aA iy)⟩
 . omega
 . exact ⟨by omega,V8 hi ha aq⟩
 iterate 29 kernel_rfl
 apply qf (decide_eq_false hb1);refine aK 0 kq kq ?_;apply ac;apply ac;refine ao ?_;apply ab;refine zZ (fun _=>[]) (fun _=>[]) ?_ ?_;apply zV 1;refine qT ?_ ?_;refine aD (b:=true) (.inr rfl) kq ?_
 rotate_left
 iterate 15 kernel_rfl
 all_goals
  first|exact (Wl ha aq).symm|exact (Xn (i:=i) hi oq aq).symm
theorem Br (s:Sc) (n:List UInt8) (hz1:s.tabs.length<=100):ae cx 140 [Sc.v s,.str n] (.tup [Tb.v (cg s.tabs n),.bool (cY s.tabs n)]):=by
 refine fI 28 0 [(ResultVar.cell 4 52),(ResultVar.tmp 5)] Tryz.func140 kq ?_;refine zZ (fun _=>[(0,Sc.v s),(1,.str n)]) (fun _=>[]) ?_ ?_;apply zW 3 (mT [(2,.ptr 0 0),(4,.ptr 1 0)] [0]) (mH [] [.box (eB s),.box iZ]);apply ai;apply zW 1 (mU [(6,.int .i64 0)]) id;apply qB 0;refine aT (σ:=Nat) (fun k=>[(1,.str n),(2,.ptr 0 0),(4,.ptr 1 0),(6,nI k)]) (fun k=>[.box (eB s),.box iZ]) (fun k=>k<=s.tabs.length/\∀ i,i<k->¬ (s.tabs.getD i Tb.zero).name=n) (fun k=>s.tabs.length - k) 0 kq rA (fg kq kq aA yX) ?_;rintro k ⟨hk,ha⟩;apply ai;apply zV 3;refine qy (aj (l:=s.tabs) (enc:=Tb.v) kq cD) ?_ ?_ ?_;apply zR 1 (mU [(11,.bool (decide (((k:Nat):Int)<((s.tabs.length:Nat):Int))))]) id;by_cases hb1:((k:Nat):Int)<((s.tabs.length:Nat):Int);apply qt (decide_eq_true hb1);apply qK;apply zZ (mT [] [11]) id;apply ai;apply qB 1;apply zV 3;refine qy ((au (k:=.i64) (l:=s.tabs) (enc:=Tb.v) (i:=((k:Nat):Int)) Tb.zero kq cD d3 (fun _=>rfl) gx gx).trans (congrArg (fun cs=>some (aa.pimm cs 0,_)) (cL (s.tabs.getD k Tb.zero)))) ?_ ?_ ?_;apply zR 4 (mU [(21,.bool ((s.tabs.getD k Tb.zero).name==n))]) id;by_cases hb2:(s.tabs.getD k Tb.zero).name=n;apply qt (beq_iff_eq.2 hb2);apply zV 3;refine qy ((au (k:=.i64) (l:=s.tabs) (enc:=Tb.v) (i:=((k:Nat):Int)) Tb.zero kq cD d3 (fun _=>rfl) gx gx).trans (congrArg (fun cs=>some (aa.pimm cs 0,_)) (cL (s.tabs.getD k Tb.zero)))) ?_ ?_ ?_;refine zR 3 (fun _=>[(4,.ptr 1 0),(5,.bool true)]) (fun _=>[.box (eB s),.box (Tb.cs (s.tabs.getD k Tb.zero))]) ?_ ?_;refine aJ kq ?_;apply iR;apply aR;apply aR;apply iR;apply aR;refine cd (l:=[.agg (Tb.cs (s.tabs.getD k Tb.zero)),.bool true]) (.inr rfl) kq ?_
 rotate_left
 iterate 5 kernel_rfl
 apply qf (beq_eq_false_iff_ne.2 hb2);refine qk ?_ ?_;refine ag ?_;apply ab;apply zZ (mT [] [21]) id;apply qo;apply qr 1;refine qy (az (a:=((k:Nat):Int)) (b:=1) kq gx gx) ?_ ?_ ?_;apply qr 1;apply qe;refine ab ⟨k+1,?_,?_,(fg kq kq aA yX)⟩
 . omega
 . refine ⟨by omega,fun i hi=>?_⟩;rcases Nat.lt_succ_iff_lt_or_eq.1 hi with h|h
   . exact ha i h
   . subst h;assumption
 iterate 19 kernel_rfl
 apply qf (decide_eq_false hb1);refine aK 0 kq kq ?_;apply ac;apply ac;refine ao ?_;apply ab;apply zZ (mT [] [1,2,6,11]) id;refine zW 3 (fun _=>[(4,.ptr 1 0),(5,.bool false)]) (fun _=>[.box (eB s),.box iZ]) ?_ ?_;refine aJ kq ?_;refine cd (l:=[.agg [.str [],.full [],.full [],.full [],.int .i64 0,.str [],.int .i64 0,.str [],.full [],.full [],.full [],.int .i64 0,.int .i64 0],.bool false]) (.inr rfl) kq ?_
 rotate_left
 iterate 14 kernel_rfl
 all_goals
  first|(rw [(DU (l:=s.tabs) (n:=n) (k:=k) oq ha aq).1,(DU (l:=s.tabs) (n:=n) (k:=k) oq ha aq).2];simp [aZ,aa.frz,aN,Tb.v,Tb.cs];done)|(rw [(DP (l:=s.tabs) (n:=n) (fun i hi=>ha i oq)).1,(DP (l:=s.tabs) (n:=n) (fun i hi=>ha i oq)).2];simp [aZ,aa.frz,aN,Tb.v,Tb.cs,Tb.zero,Ex.zero,Ex.kind,Ex.name,Ex.n,Ex.s,Ex.names,Ex.binds,Ex.kids,Ex.pos,Ex.fin];done)
end Go.Proofs.YtcpklndelobigaaGreatDoor
