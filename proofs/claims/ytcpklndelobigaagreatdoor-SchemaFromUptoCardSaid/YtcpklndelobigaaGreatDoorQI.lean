/- A part of the proof: plain lemmas and walks. No condition. -/
import Derived.Test.YtcpklndelobigaaGreatDoorQH
import Derived.Test.YtcpklndelobigaaGreatDoorMF
import Derived.Test.YtcpklndelobigaaGreatDoorQC
import Derived.Test.YtcpklndelobigaaGreatDoorQF
import Derived.Test.YtcpklndelobigaaGreatDoorCK
set_option linter.all false
namespace Go.Proofs.YtcpklndelobigaaGreatDoor
open Go.Proofs.YtcpklndelobigaaGreatDoor.Abs
set_option maxRecDepth 20000
set_option maxHeartbeats 4000000
abbrev msA (l m:List Int) (b:Bool):List Md:=kX (eN (i2 l m b)) l
abbrev smS (l m:List Int) (b:Bool):List Sm:=kC i3 mA ctB (msA l m b)
theorem EQ {s:Sc} {d:Dc} (h:d∈eN s):(∃ x∈s.sums,d=dcS x)\/∃ t∈s.tabs,d=dcT t:=by
 unfold eN at h;rcases List.mem_append.1 h with h|h <;> obtain ⟨x,hx,rfl⟩:=List.mem_map.1 h
 . exact .inl ⟨x,hx,rfl⟩
 . exact .inr ⟨x,hx,rfl⟩
theorem lq {s:Sc} (h:Gd 4 s):(eN s).length<=6:=by
 have h1:=h.l.2;have h2:=h.m.2;unfold eN;simp only [List.length_append,List.length_map];omega
theorem A0 (ds:List Dc) (l:List Int):∀ i,(mdS ds l i).1.length+(mdS ds l i).2.length<=2 * i
 | 0=>Nat.le_refl _
 | i+1=>by
  have h:=A0 ds l i;rw [mdS];split <;> split <;> simp <;> omega
section
variable {l m:List Int} {b:Bool}
theorem Js (i:Nat) (hi:i<(msA l m b).length) (k:Nat) (hk:k<((msA l m b).getD i Md.zero).decls.length):∃ d j,d∈eN (i2 l m b)/\j<6/\((msA l m b).getD i Md.zero).decls.getD k Dc.zero=mdX d j:=by
 have hg:=qi l m b;have hm:=bF ((msA l m b).getD i Md.zero).decls Dc.zero k hk
 have hor:((msA l m b).getD i Md.zero).decls.getD k Dc.zero∈(mdS (eN (i2 l m b)) l (eN (i2 l m b)).length).1\/((msA l m b).getD i Md.zero).decls.getD k Dc.zero∈(mdS (eN (i2 l m b)) l (eN (i2 l m b)).length).2:=by
  match i,hi with
  | 0,_=>exact .inl hm
  | 1,_=>exact .inr hm
  | i+2,h=>exact absurd h (by simp [msA,kX])
 obtain ⟨j,h1,h2⟩:=AF _ _ _ _ hor;have:=lq hg;exact ⟨_,j,bF _ _ _ h1,by omega,h2⟩
theorem lC {P:Dc->Prop} (hs:∀ x,GdM x->∀ j:Nat,j<6->P (mdX (dcS x) j)) (ht:∀ t,GdT 4 t->∀ j:Nat,j<6->P (mdX (dcT t) j)) (i:Nat) (hi:i<(msA l m b).length) (k:Nat) (hk:k<((msA l m b).getD i Md.zero).decls.length):P (((msA l m b).getD i Md.zero).decls.getD k Dc.zero):=by
 obtain ⟨d,j,h1,h2,h3⟩:=Js i hi k hk;have hg:=qi l m b;rw [h3];rcases EQ h1 with ⟨x,hx,rfl⟩|⟨t,hx,rfl⟩
 . exact hs x (hg.ss x hx) j h2
 . exact ht t (hg.tt t hx) j h2
theorem Kb (i:Nat):((msA l m b).getD i Md.zero).decls.length<=40:=by
 have h:=vd (eN (i2 l m b)) l (eN (i2 l m b)).length;have h6:=lq (qi l m b)
 match i with
 | 0=>show (mdS (eN (i2 l m b)) l (eN (i2 l m b)).length).1.length<=40;omega
 | 1=>show (mdS (eN (i2 l m b)) l (eN (i2 l m b)).length).2.length<=40;omega
 | i+2=>show (0:Nat)<=40;decide
theorem oR {n:Nat} (h:n<=100000):n<100000000:=by omega
theorem lx:mf i3 mA ctB (msA l m b):=by
 refine ⟨Nat.le_refl _,Kb,?_,fun i hi k hk=>?_⟩
 . have h:=A0 (eN (i2 l m b)) l (eN (i2 l m b)).length;have h6:=lq (qi l m b);show (mdS (eN (i2 l m b)) l (eN (i2 l m b)).length).1.length+(mdS (eN (i2 l m b)) l (eN (i2 l m b)).length).2.length<=12;omega
 refine lC (P:=fun d=>d.kind=0->Ku i3 mA ctB d) (fun x hx j _ _=>?_) (fun t _ j _ h=>by cases h) i hi k hk;have hq:∀ q,q<x.ctors.length->GdA (x.ctors.getD q Ct.zero):=fun q h=>hx.c _ (bF _ _ _ h)
 refine ⟨Nat.le_trans hx.l dq,(Kx hx.n).1,(Kx hx.n).2,fun q h=>(Kl (hq q h).n).1,fun q h=>DX _ (hq q h).q (oR (hq q h).z),fun q h=>?_⟩;have h1:=zb _ (rj _) (Kl (hq q h).n).2 (hq q h).q (oR (hq q h).z);have h2:=Ly _ (hq q h).n;rw [LE,h2] at h1;exact h1
theorem A7:SmQ (smS l m b):=by
 have hl:=sy (lx (l:=l) (m:=m) (b:=b));refine ⟨Nat.lt_of_le_of_lt hl dq,fun s hs=>?_⟩;obtain ⟨i,hi,k,hk,h0,rfl⟩:=rl hs;refine lC (P:=fun d=>d.kind=0->(sP d).ctors.length<1000000/\∀ c∈(sP d).ctors,Vq c.arg) (fun x hx j _ _=>?_) (fun t _ j _ h=>by cases h) i hi k hk h0;exact ⟨Nat.lt_of_le_of_lt hx.l dq,fun c hc=>yk (hx.c c hc).q⟩
theorem Iy:∀ x∈smS l m b,x.sm:=by
 intro s hs;obtain ⟨i,hi,k,hk,h0,rfl⟩:=rl hs;refine lC (P:=fun d=>d.kind=0->(sP d).sm) (fun x hx j _ _=>?_) (fun t _ j _ h=>by cases h) i hi k hk h0;exact ⟨Nat.lt_of_le_of_lt hx.l dq,fun c hc=>oR (hx.c c hc).z⟩
abbrev rQ (l m:List Int) (b:Bool):Ty->Bool:=mu (smS l m b)
theorem L0:Tb.zero.ok:=⟨by decide,by decide,by decide,fun c hc=>by cases hc⟩
theorem El {x:Sm} (h:GdM x) {j:Nat} (hj:j<6):(mdX (dcS x) j).ok:=⟨Nat.lt_of_le_of_lt (GD _ (GU _ h.n)) dq,⟨by show -1000000000000<=10 * ((j:Nat):Int)+6;omega,by show 10 * ((j:Nat):Int)+6<=1000000000000;omega⟩,L0⟩
theorem Fd {t:Tb} (h:GdT 4 t) {j:Nat} (hj:j<6):(mdX (dcT t) j).ok:=⟨Nat.lt_of_le_of_lt (GD _ h.n) dq,⟨by show -1000000000000<=10 * ((j:Nat):Int)+6;omega,by show 10 * ((j:Nat):Int)+6<=1000000000000;omega⟩,⟨Nat.le_trans h.l.2 dq,Nat.le_trans h.k dq,Nat.le_trans h.r dq,fun c hc=>oR (h.c c hc).z⟩⟩
theorem mX:kH (smS l m b) bB (rQ l m b) iq (msA l m b):=by
 refine ⟨Nat.le_refl _,Kb,fun i hi k hk=>?_⟩;refine lC (P:=OY (smS l m b) bB (rQ l m b) iq) (fun x hx j hj=>?_) (fun t ht j hj=>?_) i hi k hk
 . have hz:=tD (n:=Ex.zero) (.head _);exact ⟨El hx hj,fun q h=>absurd h (Nat.not_lt_zero q),fun q h=>absurd h (Nat.not_lt_zero q),(tQ (GU _ hx.n)).1,hz.1,hz.2.2.1⟩
 . have hz:=tD ht.x;have hq:∀ q,q<t.cols.length->GdC (t.cols.getD q Co.zero):=fun q h=>ht.c _ (bF _ _ _ h)
   exact ⟨Fd ht hj,fun q h=>(tQ (hq q h).n).1,fun q h=>Gs _ _ (yk (hq q h).q) A7,(tQ ht.n).1,hz.1,hz.2.2.1⟩
theorem Dv:BE (smS l m b) bB (rQ l m b) iq (msA l m b):=by
 refine ⟨fun i hi k hk=>?_⟩;refine lC (P:=Bu (smS l m b) bB (rQ l m b) iq) (fun x hx j hj=>?_) (fun t ht j hj=>?_) i hi k hk
 . have hz:=tD (n:=Ex.zero) (.head _);exact ⟨El hx hj,fun q h=>absurd h (Nat.not_lt_zero q),fun q h=>absurd h (Nat.not_lt_zero q),(tQ (GU _ hx.n)).2,hz.2.1⟩
 . have hz:=tD ht.x;have hq:∀ q,q<t.cols.length->GdC (t.cols.getD q Co.zero):=fun q h=>ht.c _ (bF _ _ _ h)
   exact ⟨Fd ht hj,fun q h=>(tQ (hq q h).n).2,fun q h=>D0 _ _ (yk (hq q h).q) A7,(tQ ht.n).2,hz.2.1⟩
abbrev scA (l m:List Int) (b:Bool):Sc:=oG bB (rQ l m b) iq (msA l m b) (smS l m b)
abbrev psA (l m:List Int) (b:Bool):List Pb:=(stI bB (rQ l m b) iq (msA l m b) (msA l m b).length).bp.2
theorem Ce {P:Tb->Prop} (hp:∀ t,GdT 4 t->P (t.named t.name)) (h0:∀ x,GdM x->P (Tb.zero.named x.name)):∀ t∈(scA l m b).tabs,P t:=fun t ht =>
 Ba (O:=bB) (U:=rQ l m b) (Y:=iq) (V:=msA l m b) (p:=P) (fun i hi k hk=>lC (P:=fun d=>P (d.tab.named d.name)) (fun x hx j _=>h0 x hx) (fun t ht j _=>hp t ht) i hi k hk) _ (Nat.le_refl _) t ((nt _ _ 9).subset (yq.mem_iff.1 ht))
theorem E6:(scA l m b).sm:=by
 refine ⟨Nat.lt_of_le_of_lt (sy lx) dq,Iy,?_,Ce (P:=Tb.sm) (fun t ht=>?_) (fun x _=>?_)⟩
 . have:=(yq (O:=bB) (U:=rQ l m b) (Y:=iq) (V:=msA l m b) (Z:=smS l m b)).length_eq;have h9:=vI (O:=bB) (U:=rQ l m b) (Y:=iq) (V:=msA l m b) 9;rw [this];omega
 . exact ⟨Nat.lt_of_le_of_lt ht.l.2 dq,fun c hc=>oR (ht.c c hc).z,Nat.lt_of_le_of_lt ht.k dq,Nat.lt_of_le_of_lt ht.r dq,oR (Nat.le_trans (OK _ ht.x) dq)⟩
 . exact ⟨by show 0<1000000000;decide,fun c hc=>(by cases hc),by show 0<1000000000;decide,by show 0<1000000000;decide,by show Ex.zero.sz<100000000;decide⟩
theorem EZ:∀ t∈(scA l m b).tabs,af cx 43 [t.chk.v] (.bool true):=Ce (fun t ht=>(tD ht.x).2.2.2) (fun x _=>(tD (n:=Ex.zero) (.head _)).2.2.2)
theorem FD:af cx 7 [.imm ((msA l m b).map Md.v)] (.tup [(scA l m b).v,.imm ((psA l m b).map Pb.v)]) :=
 CS bB (rQ l m b) iq (smS l m b) (msA l m b) mX (DR i3 mA ctB (msA l m b) lx)
theorem DE:af cx 8 [.imm ((msA l m b).map Md.v)] (.tup [(scA l m b).v,.imm ((psA l m b).map Pb.v)]):=by
 have:=zH bB (rQ l m b) iq (smS l m b) (msA l m b) mX Dv (z6 i3 mA ctB (msA l m b) lx);rw [(tu (Z:=smS l m b)).1,(tu (Z:=smS l m b)).2] at this;exact this
theorem LQ:af cx 10 [.imm ((psA l m b).map Pb.v),.imm ((psA l m b).map Pb.v)] (.bool true):=by
 refine zv _ ?_ fun p hp=>Nat.lt_of_le_of_lt (JG _ p hp) dq
 have h1:=u5 (mX (l:=l) (m:=m) (b:=b)) (msA l m b).length (Nat.le_refl _);have h2:=(mX (l:=l) (m:=m) (b:=b)).n;have h3:(psA l m b).length<=12080 * (msA l m b).length:=h1;omega
theorem Mo:af cx 9 [(scA l m b).v,(scA l m b).v] (.bool true):=by
 have:=xR (scA l m b) (scA l m b) E6
 rwa [Sc.beq_refl] at this
end
theorem I9 (l m:List Int) (hm:ji m):af cx 18 [(fj l).v,.imm (m.map (.int .i64))] (ff (fj l) m).v:=by
 have h:=nT l;have ht:=tG m h;exact CY (fj l) m hm h.m.1 h.l.1 ht.l.1 ⟨Nat.lt_of_le_of_lt h.l.2 dq,Nat.lt_of_le_of_lt h.m.2 dq,Nat.lt_of_le_of_lt ht.l.2 dq,Nat.lt_of_le_of_lt ht.k dq,Nat.lt_of_le_of_lt ht.r dq⟩
theorem RS (l:List Int):Gd 4 (fj l):=(nT l).up dq
theorem Q1 (l m:List Int):Gd 4 (ff (fj l) m):=Cb m (nT l)
theorem xV (s:Sc) (h:Gd 4 s):af cx 23 [s.v] (.imm ((eN s).map Dc.v)):=y5 _ (Nat.le_trans h.l.2 dq) (Nat.le_trans h.m.2 dq)
noncomputable def c6:Code:=aF Tryz.f6
theorem Ip {p:Prop} (h:p:=by first|exact RS l|exact Q1 l m):p:=h
theorem vO (l m:List Int) (b:Bool) (hl:ji l) (hm:ji m):af cx 6 [.imm (l.map (aa.int .i64)),.imm (m.map (aa.int .i64)),.bool (b)] (.imm ((msA l m b).map Md.v)):=by
 refine am (cx:=cx) 18 0 [(ResultVar.tmp 6)] Tryz.func6 rfl rfl rfl rfl rfl zq ?_;show wpA cx 18 0 (at_ c6 []) _ _ _;refine zZ (fun _=>[(0,.imm (l.map (aa.int .i64))),(1,.imm (m.map (aa.int .i64))),(2,.bool (b))]) (fun _=>[]) ?_ ?_;apply zW 1 id id;apply zV 1;refine qP (x7 l hl) di di di kq ?_;apply zR 2 (mU [(7,.ptr 0 0)]) (mH [] [.box [.imm ((fj l).sums.map Sm.v),.imm ((fj l).tabs.map Tb.v)]]);apply ao;apply zW 1 (mT [(10,.bool (b))] [2]) id;by_cases hb1:(b)=true;apply qt (hb1);apply qo;apply qr 2;refine qP (I9 l m hm) di di di kq ?_;apply qR 1 [(0,.imm (l.map (aa.int .i64))),(7,.ptr 0 0)] [.box [.imm ((ff (fj l) m).sums.map Sm.v),.imm ((ff (fj l) m).tabs.map Tb.v)]];apply zV 1;refine qP (xV (ff (fj l) m) Ip) di di di kq ?_;apply qr 1;refine qP (ul (eN (ff (fj l) m)) l (Nat.le_trans (lq Ip) dq) hl) di di di kq ?_;refine zR 1 (fun _=>[(6,.imm ((kX (eN (ff (fj l) m)) l).map Md.v))]) (fun _=>[.box [.imm ((ff (fj l) m).sums.map Sm.v),.imm ((ff (fj l) m).tabs.map Tb.v)]]) ?_ ?_;refine bq kq ?_;refine cq (l:=[.imm ((kX (eN (ff (fj l) m)) l).map Md.v)]) (.inr rfl) kq ?_
 . cases b <;> simp_all [bg,aa.frz,aQ,i2,msA]
 iterate 7 kernel_rfl
 apply qf (Bool.eq_false_iff.2 hb1);apply qK;apply zZ (mT [] [1,10]) id;apply zV 1;refine qP (xV (fj l) Ip) di di di kq ?_;apply qr 1;refine qP (ul (eN (fj l)) l (Nat.le_trans (lq Ip) dq) hl) di di di kq ?_;refine zR 1 (fun _=>[(6,.imm ((kX (eN (fj l)) l).map Md.v))]) (fun _=>[.box [.imm ((fj l).sums.map Sm.v),.imm ((fj l).tabs.map Tb.v)]]) ?_ ?_;refine bq kq ?_;refine cq (l:=[.imm ((kX (eN (fj l)) l).map Md.v)]) (.inr rfl) kq ?_
 . cases b <;> simp_all [bg,aa.frz,aQ,i2,msA]
 iterate 12 kernel_rfl
noncomputable def c11:Code:=aF Tryz.f11
theorem DJ (s:Sc) (hb:∀ t∈s.tabs,af cx 43 [t.chk.v] (.bool true)) (hn:s.tabs.length<1000000000):af cx 11 [Sc.v s] (.bool true):=by
 refine am (cx:=cx) 19 0 [(ResultVar.tmp 2)] Tryz.func11 rfl rfl rfl rfl rfl zq ?_;show wpA cx 19 0 (at_ c11 []) _ _ _;refine zZ (fun _=>[(0,Sc.v s)]) (fun _=>[]) ?_ ?_;apply zW 2 (mT [(1,.ptr 0 0)] [0]) (mH [] [.box [.imm (s.sums.map Sm.v),.imm (s.tabs.map Tb.v)]]);apply ao;apply zW 1 (mU [(3,.int .i64 0)]) id;apply qB 0;refine aU (σ:=Nat) (fun k=>[(1,.ptr 0 0),(3,.int .i64 ((k:Nat):Int))]) (fun k=>[.box [.imm (s.sums.map Sm.v),.imm (s.tabs.map Tb.v)]]) (fun k=>k<=s.tabs.length) (fun k=>s.tabs.length - k) 0 kq iG (fg kq kq az hP) ?_;rintro k hk;apply ao;apply zV 3;refine qy (aw (l:=s.tabs) (enc:=Tb.v) kq b7) ?_ ?_ ?_;apply zR 1 (mU [(8,.bool (decide (((k:Nat):Int)<((s.tabs.length:Nat):Int))))]) id;by_cases hb1:((k:Nat):Int)<((s.tabs.length:Nat):Int);apply qt (decide_eq_true hb1);apply qK;apply zZ (mT [] [8]) id;apply ao;apply qB 1;apply zV 3;refine qy ((av (k:=.i64) (l:=s.tabs) (enc:=Tb.v) (i:=((k:Nat):Int)) Tb.zero kq b7 cN (fun _=>rfl) lQ lQ).trans (congrArg (fun cs=>some (aa.pimm cs 0,_)) (cQ (s.tabs.getD k Tb.zero)))) ?_ ?_ ?_;apply qr 2;refine qP (hb _ (bF s.tabs Tb.zero k oq)) di di di kq ?_;apply zR 1 (mU [(18,.bool false)]) id;refine fM kq kq ?_;apply qk;apply ag;apply ab;apply zZ (mT [] [18]) id;apply qo;apply qr 1;refine qy (aA (a:=((k:Nat):Int)) (b:=1) kq lQ lQ) ?_ ?_ ?_;apply qr 1;apply qe;refine ab ⟨k+1,?_,?_,(fg kq kq az hP)⟩
 . omega
 . omega
 iterate 19 kernel_rfl
 apply qf (decide_eq_false hb1);refine aK 0 kq kq ?_;apply ac;apply ac;apply au;apply ab;refine zZ (fun _=>[]) (fun _=>[.box [.imm (s.sums.map Sm.v),.imm (s.tabs.map Tb.v)]]) ?_ ?_;apply zV 1;apply qT;refine aJ (b:=true) (.inr rfl) kq ?_
 . rfl
 iterate 15 kernel_rfl
noncomputable def c3:Code:=aF Tryz.f3
theorem Et (l m:List Int) (b:Bool) (hl:ji l) (hm:ji m):af cx 3 [.imm (l.map (aa.int .i64)),.imm (m.map (aa.int .i64)),.bool (b)] (.bool true):=by
 refine am (cx:=cx) 41 0 [(ResultVar.tmp 6)] Tryz.func3 rfl rfl rfl rfl rfl zq ?_;show wpA cx 41 0 (at_ c3 []) _ _ _;refine zZ (fun _=>[(0,.imm (l.map (aa.int .i64))),(1,.imm (m.map (aa.int .i64))),(2,.bool (b))]) (fun _=>[]) ?_ ?_;apply zW 1 id id;apply zV 3;refine qP (vO l m (b) hl hm) di di di kq ?_;refine zR 1 (fun _=>[(7,.imm ((msA l m (b)).map Md.v))]) id ?_ ?_;apply zV 1;refine qP (FD (l:=l) (m:=m) (b:=b)) di di di kq ?_;apply zR 6 (mU [(8,.ptr 0 0),(9,.imm ((psA l m b).map Pb.v))]) (mH [] [.box [.imm ((scA l m b).sums.map Sm.v),.imm ((scA l m b).tabs.map Tb.v)]]);apply zV 1;refine qP (DE (l:=l) (m:=m) (b:=b)) di di di kq ?_;refine zR 6 (fun _=>[(8,.ptr 0 0),(9,.imm ((psA l m b).map Pb.v)),(10,.ptr 1 0),(11,.imm ((psA l m b).map Pb.v))]) (fun _=>[.box [.imm ((scA l m b).sums.map Sm.v),.imm ((scA l m b).tabs.map Tb.v)],.box [.imm ((scA l m b).sums.map Sm.v),.imm ((scA l m b).tabs.map Tb.v)]]) ?_ ?_;apply zV 2;refine qP (Mo (l:=l) (m:=m) (b:=b)) di di di kq ?_;apply qr 3;refine qP (LQ (l:=l) (m:=m) (b:=b)) di di di kq ?_;apply qr 3;refine qP (DJ (scA l m b) EZ E6.2.2.1) di di di kq ?_;apply qr 2;apply qc [] (y4);apply qX 2;refine aJ (b:=true) (.inr rfl) kq ?_
 . rfl
 iterate 14 kernel_rfl
end Go.Proofs.YtcpklndelobigaaGreatDoor
