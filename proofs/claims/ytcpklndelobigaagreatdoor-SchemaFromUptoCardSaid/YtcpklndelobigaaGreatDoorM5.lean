/- A part of the proof: plain lemmas and walks. No condition. -/
import Derived.Test.YtcpklndelobigaaGreatDoorM4
set_option linter.all false
namespace Go.Proofs.YtcpklndelobigaaGreatDoor
open Go.Proofs.YtcpklndelobigaaGreatDoor.Abs
set_option maxRecDepth 20000
set_option maxHeartbeats 4000000
section
variable {O:List UInt8->Bool} {U:Ty->Bool} {Y:Ex->Int} {fst:List UInt8->Option Tb} {doc:List UInt8} {d:Dc} {s:BP}
theorem tv:(b8 O U doc d s).2.length<=s.2.length+1+d.tab.cols.length:=by
 have h:=rY O U doc d (bif Nat.blt 8 d.tab.cols.length then bH doc d [] s else s) d.tab.cols.length;have h1:(bif Nat.blt 8 d.tab.cols.length then bH doc d [] s else s).2.length<=s.2.length+1:=by cases Nat.blt 8 d.tab.cols.length <;> simp [bH]
 unfold b8;omega
theorem ud:(cj doc d s).2.length<=s.2.length+1+d.tab.key.length:=by
 have h:=r5 doc d (bif aS d.tab then bH doc d [] s else s) d.tab.key.length;have h1:(bif aS d.tab then bH doc d [] s else s).2.length<=s.2.length+1:=by cases aS d.tab <;> simp [bH]
 unfold cj;omega
theorem Ck:(cR fst doc d s).2.length<=s.2.length+d.tab.refs.length:=qC fst doc d s _
theorem EG {Y:Ex->Bool}:(gl O U Y fst doc d s).2.length<=s.2.length+2+d.tab.cols.length+d.tab.key.length+d.tab.refs.length:=by
 have h1:=tv (O:=O) (U:=U) (doc:=doc) (d:=d) (s:=s);have h2:=ud (doc:=doc) (d:=d) (s:=b8 O U doc d s);have h3:=Ck (fst:=fst) (doc:=doc) (d:=d) (s:=cj doc d (b8 O U doc d s));unfold gl;cases !O d.name || !Y d.tab.chk <;> simp [eb] <;> omega
theorem K4 (h:¬ O d.name=true):gl O U (fun e=>Y e==0) fst doc d s=eb d.name (cR fst doc d (cj doc d (b8 O U doc d s))):=by unfold gl;rw [Bool.eq_false_iff.2 h];rfl
theorem Lw (h2:¬ Y d.tab.chk=0):gl O U (fun e=>Y e==0) fst doc d s=eb d.name (cR fst doc d (cj doc d (b8 O U doc d s))):=by
 show (bif !O d.name || !(Y d.tab.chk==0) then eb d.name (cR fst doc d (cj doc d (b8 O U doc d s))) else cR fst doc d (cj doc d (b8 O U doc d s)))=_;rw [show (Y d.tab.chk==0)=false by simpa using h2];cases O d.name <;> rfl
theorem Mn (h:O d.name=true) (h2:Y d.tab.chk=0):gl O U (fun e=>Y e==0) fst doc d s=cR fst doc d (cj doc d (b8 O U doc d s)):=by
 show (bif !O d.name || !(Y d.tab.chk==0) then eb d.name (cR fst doc d (cj doc d (b8 O U doc d s))) else cR fst doc d (cj doc d (b8 O U doc d s)))=_;rw [h,h2];rfl
end
noncomputable def c26:Code:=aF Tryz.f26
theorem CC (O:List UInt8->Bool) (U:Ty->Bool) (Y:Ex->Int) (Z:List Sm) (M:Tm_) (s:BP) (doc:List UInt8) (d:Dc) (hd:d.ok) (hs:s.2.length<90000) (hlow:∀ i,i<d.tab.cols.length->af cx 70 [.int .i64 2,.str (d.tab.cols.getD i Co.zero).name] (.bool (O (d.tab.cols.getD i Co.zero).name))) (hsto:∀ i,i<d.tab.cols.length->af cx 136 [.imm (Z.map Sm.v),(d.tab.cols.getD i Co.zero).type.v] (.bool (U (d.tab.cols.getD i Co.zero).type))) (hM:∀ n x,aC n M=some x->x.ok) (hln:af cx 70 [.int .i64 2,.str d.name] (.bool (O d.name))) (hchk:af cx 77 [d.tab.chk.v] (.int .i64 (Y d.tab.chk))):aE cx 26 [.ptr 0 0,.str doc,Dc.v d] (hpF Z M s) (fun v h=>v=(.tup [])/\h=hpF Z M (gl O U (fun e=>Y e==0) (fun n=>aC n M) doc d s)):=by
 have hdc:=hd.t.c;have hdk:=hd.t.k;have hl1:=tv (O:=O) (U:=U) (doc:=doc) (d:=d) (s:=s);have hl2:=ud (doc:=doc) (d:=d) (s:=b8 O U doc d s);refine am (cx:=cx) 35 4 [] Tryz.func26 rfl rfl rfl rfl rfl zq ?_;show wpA cx 35 4 (at_ c26 []) _ _ _;refine zZ (fun _=>[(0,.ptr 0 0),(1,.str doc),(2,Dc.v d)]) (fun _=>[.box [.imm (Z.map Sm.v),.map 1,.map 2,.own 3 0 s.2.length],.map (ak aa.str Tb.v M),.map (ak aa.str aa.bool s.1),.arr 5 (s.2.map Pb.v) 0]) ?_ ?_;apply zW 1 (mT [(5,.ptr 4 0)] [2]) (mH [] [.box (Dc.cs d)]);apply zV 3;refine qA (wQ O U Z M s doc d hd oq hlow hsto) br br rfl br br kq ?_;apply zN id (mO [(0,.box [.imm (Z.map Sm.v),.map 1,.map 2,.own 3 0 (b8 O U doc d s).2.length]),(2,.map (ak aa.str aa.bool (b8 O U doc d s).1)),(3,.arr 5 ((b8 O U doc d s).2.map Pb.v) 0)]);apply zV 3;refine qA (Jm Z M (b8 O U doc d s) doc d hd oq) br br rfl br br kq ?_;apply zN id (mO [(0,.box [.imm (Z.map Sm.v),.map 1,.map 2,.own 3 0 (cj doc d (b8 O U doc d s)).2.length]),(2,.map (ak aa.str aa.bool (cj doc d (b8 O U doc d s)).1)),(3,.arr 5 ((cj doc d (b8 O U doc d s)).2.map Pb.v) 0)]);apply zV 3;refine qA (FR Z M (cj doc d (b8 O U doc d s)) doc d hd oq hM) br br rfl br br kq ?_;refine zN (mT [] [1]) (mO [(0,.box [.imm (Z.map Sm.v),.map 1,.map 2,.own 3 0 (cR (fun n=>aC n M) doc d (cj doc d (b8 O U doc d s))).2.length]),(2,.map (ak aa.str aa.bool (cR (fun n=>aC n M) doc d (cj doc d (b8 O U doc d s))).1)),(3,.arr 5 ((cR (fun n=>aC n M) doc d (cj doc d (b8 O U doc d s))).2.map Pb.v) 0)]) ?_ ?_;apply zV 2;apply qc [.int .i64 2,.str d.name] (hln);apply qr 2;by_cases hb1:(O d.name)=true;refine zm [21,22] (x:=(!(O d.name))) (congrArg not (hb1)) ?_ ?_;apply qr 3;refine qP (hchk) aY aY aY kq ?_;refine zR 2 (fun _=>[(0,.ptr 0 0),(5,.ptr 4 0),(28,.bool ((Y d.tab.chk) != 0))]) (fun _=>[.box [.imm (Z.map Sm.v),.map 1,.map 2,.own 3 0 (cR (fun n=>aC n M) doc d (cj doc d (b8 O U doc d s))).2.length],.map (ak aa.str Tb.v M),.map (ak aa.str aa.bool (cR (fun n=>aC n M) doc d (cj doc d (b8 O U doc d s))).1),.arr 5 ((cR (fun n=>aC n M) doc d (cj doc d (b8 O U doc d s))).2.map Pb.v) 0,.box (Dc.cs d)]) ?_ ?_;by_cases hb2:(Y d.tab.chk)=0;refine qf (x:=((Y d.tab.chk) != 0)) (bne_eq_false_iff_eq.2 hb2) ?_ ?_;apply qk;refine cy (l:=[]) (.inl rfl) kq (by rfl) c5 c5 ?_ ?_;refine Eq.trans (b:=[.box [.imm (Z.map Sm.v),.map 1,.map 2,.own 3 0 (cR (fun n=>aC n M) doc d (cj doc d (b8 O U doc d s))).2.length],.map (ak aa.str Tb.v M),.map (ak aa.str aa.bool (cR (fun n=>aC n M) doc d (cj doc d (b8 O U doc d s))).1),.arr 5 ((cR (fun n=>aC n M) doc d (cj doc d (b8 O U doc d s))).2.map Pb.v) 0]) kq ?_
 rotate_left
 . simp [ax.belO,hpF,Ty.v,Ex.v,Ct.v,Co.v,Rf.v,Sm.v,Tb.v_cs,Sc.v,Md.v,Pb.v,Ls.v]
 iterate 2 kernel_rfl
 refine qt (x:=((Y d.tab.chk) != 0)) (bne_iff_ne.2 hb2) ?_ ?_;refine zD cxM kq yQ ?_;apply qu 6;refine qD (cI (o:=2) (ek:=aa.str) (ev:=aa.bool) (l:=(cR (fun n=>aC n M) doc d (cj doc d (b8 O U doc d s))).1) (k:=d.name) (x:=true) eo kq eM ty9 rfl kq kq) ?_ ?_ ?_ ?_;refine bh kq ⟨kq,?_⟩;refine cy (l:=[]) (.inl rfl) kq (by rfl) c5 c5 ?_ ?_;refine Eq.trans (b:=[.box [.imm (Z.map Sm.v),.map 1,.map 2,.own 3 0 (cR (fun n=>aC n M) doc d (cj doc d (b8 O U doc d s))).2.length],.map (ak aa.str Tb.v M),.map (ak aa.str aa.bool (bM d.name true (cR (fun n=>aC n M) doc d (cj doc d (b8 O U doc d s))).1)),.arr 5 ((cR (fun n=>aC n M) doc d (cj doc d (b8 O U doc d s))).2.map Pb.v) 0]) kq ?_
 rotate_left
 . simp [ax.belO,hpF,Ty.v,Ex.v,Ct.v,Co.v,Rf.v,Sm.v,Tb.v_cs,Sc.v,Md.v,Pb.v,Ls.v]
 iterate 8 kernel_rfl
 refine zm [21,22] (x:=(!(O d.name))) (congrArg not (Bool.eq_false_iff.2 hb1)) ?_ ?_;refine zR 6 (fun _=>[(0,.ptr 0 0),(5,.ptr 4 0),(28,.bool true)]) (fun _=>[.box [.imm (Z.map Sm.v),.map 1,.map 2,.own 3 0 (cR (fun n=>aC n M) doc d (cj doc d (b8 O U doc d s))).2.length],.map (ak aa.str Tb.v M),.map (ak aa.str aa.bool (cR (fun n=>aC n M) doc d (cj doc d (b8 O U doc d s))).1),.arr 5 ((cR (fun n=>aC n M) doc d (cj doc d (b8 O U doc d s))).2.map Pb.v) 0,.box (Dc.cs d)]) ?_ ?_;refine cJ kq kq ?_;refine zD cxM kq yQ ?_;apply qu 6;refine qD (cI (o:=2) (ek:=aa.str) (ev:=aa.bool) (l:=(cR (fun n=>aC n M) doc d (cj doc d (b8 O U doc d s))).1) (k:=d.name) (x:=true) eo kq eM ty9 rfl kq kq) ?_ ?_ ?_ ?_;refine bh kq ⟨kq,?_⟩;refine cy (l:=[]) (.inl rfl) kq (by rfl) c5 c5 ?_ ?_;refine Eq.trans (b:=[.box [.imm (Z.map Sm.v),.map 1,.map 2,.own 3 0 (cR (fun n=>aC n M) doc d (cj doc d (b8 O U doc d s))).2.length],.map (ak aa.str Tb.v M),.map (ak aa.str aa.bool (bM d.name true (cR (fun n=>aC n M) doc d (cj doc d (b8 O U doc d s))).1)),.arr 5 ((cR (fun n=>aC n M) doc d (cj doc d (b8 O U doc d s))).2.map Pb.v) 0]) kq ?_
 rotate_left
 . simp [ax.belO,hpF,Ty.v,Ex.v,Ct.v,Co.v,Rf.v,Sm.v,Tb.v_cs,Sc.v,Md.v,Pb.v,Ls.v]
 iterate 17 kernel_rfl
 all_goals
  first|rw [K4 aq]|rw [Lw aq]|rw [Mn aq aq]
  rfl
theorem In {p:Prop} (h:p:=by rintro v h ⟨rfl,rfl⟩;simp [aa.frz,aQ]):p:=h
theorem H9 (l:List (Co)) (hn:l.length<1000000000):af cx 78 [.imm (l.map Co.v)] (.imm (l.map Co.v)) :=
 eX (Cf (l.map Co.v) [] (gM (fun _=>rfl) l) (by simp [gR];omega) rfl (wC _ l)) In zq
theorem GL (l:List (List UInt8)) (hn:l.length<1000000000):af cx 79 [.imm (l.map aa.str)] (.imm (l.map aa.str)) :=
 eX (A2 (l.map aa.str) [] (gM (fun _=>rfl) l) (by simp [gR];omega) rfl (oJ _ l)) In zq
theorem HV (l:List (Rf)) (hn:l.length<1000000000):af cx 80 [.imm (l.map Rf.v)] (.imm (l.map Rf.v)) :=
 eX (A4 (l.map Rf.v) [] (gM (fun _=>rfl) l) (by simp [gR];omega) rfl (Gb _ l)) In zq
noncomputable def c27:Code:=aF Tryz.f27
theorem zI (t:Tb) (ht:t.ok) (hst:af cx 81 [t.chk.v] t.chk.v):af cx 27 [Tb.v t] (Tb.v t):=by
 have h1:=ht.c;have h2:=ht.k;have h3:=ht.r;refine am (cx:=cx) 20 0 [(ResultVar.cell 2 52)] Tryz.func27 rfl rfl rfl rfl rfl zq ?_;show wpA cx 20 0 (at_ c27 []) _ _ _;refine zZ (fun _=>[(0,Tb.v t)]) (fun _=>[]) ?_ ?_;apply zW 2 (mT [(1,.ptr 0 0),(2,.ptr 1 0)] [0]) (mH [] [.box (Tb.cs t),.box wn]);apply ao;refine zD cxM kq aj ?_;apply qu 2;refine qQ (H9 t.cols (by first|omega)) aY aY aY kq ?_;apply qu 2;refine qQ (GL t.key (by first|omega)) aY aY aY kq ?_;apply qu 2;refine qQ (HV t.refs (by first|omega)) aY aY aY kq ?_;apply qu 6;refine bh kq ⟨kq,?_⟩;apply zE id id;apply zV 2;refine qP (hst) aY aY aY kq ?_;apply zR 2 id id;refine zW 2 (fun _=>[(2,.ptr 1 0)]) (fun _=>[.box (Tb.cs t),.box (Tb.cs t)]) ?_ ?_;refine bq kq ?_;refine cq (l:=[.agg (Tb.cs t)]) (.inr rfl) kq ?_
 . simp [bg,Tb.v_cs]
 iterate 11 kernel_rfl
noncomputable def c32:Code:=aF Tryz.f32
theorem Hw (x:Rf) (W:List (List UInt8×Bool)) :aE cx 32 [Rf.v x,.ptr 0 0] [.box [.map 1],.map (ak aa.str aa.bool W)] (fun v h=>v=(.bool (!(aO W x.tab)))/\h=[.box [.map 1],.map (ak aa.str aa.bool W)]):=by
 refine am (cx:=cx) 9 2 [(ResultVar.tmp 3)] Tryz.func32 rfl rfl rfl rfl rfl zq ?_;show wpA cx 9 2 (at_ c32 []) _ _ _;refine zZ (fun _=>[(0,Rf.v x),(1,.ptr 0 0)]) (fun _=>[.box [.map 1],.map (ak aa.str aa.bool W)]) ?_ ?_;apply zW 2 (mT [(2,.ptr 2 0)] [0]) (mH [] [.box [.str x.col,.str x.tab]]);apply zV 3;refine qy (jK (a2:=0) (b2:=0) (ok:=false) (o:=1) (ek:=aa.str) (ev:=aa.bool) (l:=W) (k:=x.tab) eo kq eM ty9 kq ty4 kq false kq) ?_ ?_ ?_;refine zR 2 (fun _=>[(3,.bool (!(aO W x.tab)))]) (fun _=>[.box [.map 1],.map (ak aa.str aa.bool W),.box [.str x.col,.str x.tab]]) ?_ ?_;refine bq kq ?_;refine cy (l:=[.bool (!(aO W x.tab))]) (.inr rfl) kq (by rfl) c5 c5 ?_ ?_;refine Eq.trans (b:=[.box [.map 1],.map (ak aa.str aa.bool W)]) kq ?_
 . rfl
 . simp [ax.belO,aM,aa.bel]
 iterate 6 kernel_rfl
abbrev CM (W:List (List UInt8×Bool)):List ax:=[.box [.map 1],.map (ak aa.str aa.bool W)]
theorem PM {p:Prop} (h:p:=by show aa.int _ _=aa.int _ _;first|rw [<- eW (p:=fun x:Rf=>!aO W x.tab) Rf.zero (l:=l) (k:=k) oq ha (by simp_all)]|rw [<- e7 (p:=fun x:Rf=>!aO W x.tab) Rf.zero (l:=l) (fun i hi=>ha i oq)]):p:=h
theorem Jr (l:List Rf) (W:List (List UInt8×Bool)) (hn:l.length<1000000000):aE cx 83 [.imm (l.map Rf.v),.fn (.func 32) [] [.ptr 0 0]] [.box [.map 1],.map (ak aa.str aa.bool W)] (fun v h=>v=(.int .i64 (ce (fun x:Rf=>!aO W x.tab) l))/\h=[.box [.map 1],.map (ak aa.str aa.bool W)]):=by
 refine am (cx:=cx) 19 2 [(ResultVar.tmp 4)] Tryz.func83 rfl rfl rfl rfl rfl zq ?_;show wpA cx 19 2 (at_ c83 []) _ _ _;refine zZ (fun _=>[(0,.imm (l.map Rf.v)),(1,.fn (.func 32) [] [.ptr 0 0])]) (fun _=>(CM W)) ?_ ?_;apply zW 1 id id;apply ao;apply zV 1;refine qy (aw (l:=l) (enc:=Rf.v) kq iw) ?_ ?_ ?_;apply zR 1 (mU [(7,nI l.length),(8,.int .i64 0)]) id;apply qB 0;refine aU (σ:=Nat) (fun k=>[(0,.imm (l.map Rf.v)),(1,.fn (.func 32) [] [.ptr 0 0]),(7,.int .i64 ((l.length:Nat):Int)),(8,nI k)]) (fun k=>(CM W)) (fun k=>k<=l.length/\∀ i,i<k->¬ (!aO W (l.getD i Rf.zero).tab)=true) (fun k=>l.length - k) 0 kq (by exact ⟨Nat.zero_le _,fun i h=>absurd h (Nat.not_lt_zero i)⟩) (fg kq kq az hP) ?_;rintro k ⟨hk,ha⟩;apply zW 1 (mU [(9,.bool (decide (((k:Nat):Int)<((l.length:Nat):Int))))]) id;apply ao;by_cases hb1:((k:Nat):Int)<((l.length:Nat):Int);apply qt (decide_eq_true hb1);apply qK;apply zZ (mT [] [9]) id;apply ao;apply qB 1;apply zW 2 (mU [(5,nI k)]) id;apply zV 3;refine qy ((av (k:=.i64) (l:=l) (enc:=Rf.v) (i:=((k:Nat):Int)) Rf.zero kq iw ow (fun _=>rfl) oq oq).trans (congrArg (fun cs=>some (aa.pimm cs 0,_)) (fV (l.getD k Rf.zero)))) ?_ ?_ ?_;apply qr 1;refine qA (Hw (l.getD k Rf.zero) W) hP hP rfl hP hP kq ?_;apply zN (mU [(16,.bool (!(aO W (l.getD k Rf.zero).tab)))]) id;by_cases hb2:(aO W (l.getD k Rf.zero).tab)=true;refine qf (x:=(!(aO W (l.getD k Rf.zero).tab))) (congrArg not (hb2)) ?_ ?_;apply qk;apply ag;apply ab;apply zZ (mT [] [5,16]) id;apply qo;refine qy (aA (a:=((k:Nat):Int)) (b:=1) kq oq oq) ?_ ?_ ?_;apply qr 1;apply qe;refine ab ⟨k+1,?_,?_,(fg kq kq az hP)⟩
 . omega
 . refine ⟨by omega,fun i hi=>?_⟩;rcases Nat.lt_succ_iff_lt_or_eq.1 hi with h|h
   . exact ha i h
   . subst h;simp_all
 iterate 8 kernel_rfl
 refine qt (x:=(!(aO W (l.getD k Rf.zero).tab))) (congrArg not (Bool.eq_false_iff.2 hb2)) ?_ ?_;refine zW 2 (fun _=>[(4,nI k)]) (fun _=>(CM W)) ?_ ?_;refine bq kq ?_;apply iR;apply aR;apply aR;apply iR;apply aR;refine cy (l:=[.int .i64 ((k:Nat):Int)]) (.inr rfl) kq PM c5 c5 ?_ ?_;refine Eq.trans (b:=(CM W)) kq ?_
 . rfl
 . simp [ax.belO,aM,aa.bel]
 iterate 14 kernel_rfl
 apply qf (decide_eq_false hb1);refine aK 0 kq kq ?_;apply ac;apply ac;apply au;apply ab;refine zZ (fun _=>[]) id ?_ ?_;refine zW 1 (fun _=>[(4,.int .i64 (-1))]) (fun _=>(CM W)) ?_ ?_;refine bq kq ?_;refine cy (l:=[.int .i64 (-1)]) (.inr rfl) kq PM c5 c5 ?_ ?_;refine Eq.trans (b:=(CM W)) kq ?_
 . rfl
 . simp [ax.belO,aM,aa.bel]
 iterate 14 kernel_rfl
theorem I4 (l:List Rf) (W:List (List UInt8×Bool)) (hn:l.length<1000000000):aE cx 31 [.imm (l.map Rf.v),.fn (.func 32) [] [.ptr 0 0]] [.box [.map 1],.map (ak aa.str aa.bool W)] (fun v h=>v=(.bool (l.any (fun x:Rf=>!aO W x.tab)))/\h=[.box [.map 1],.map (ak aa.str aa.bool W)]):=by
 refine am (cx:=cx) 9 2 [(ResultVar.tmp 4)] Tryz.func31 rfl rfl rfl rfl rfl zq ?_;show wpA cx 9 2 (at_ c31 []) _ _ _;refine zZ (fun _=>[(0,.imm (l.map Rf.v)),(1,.fn (.func 32) [] [.ptr 0 0])]) (fun _=>[.box [.map 1],.map (ak aa.str aa.bool W)]) ?_ ?_;apply zW 1 id id;apply zV 2;refine qA (Jr l W oq) hP hP rfl hP hP kq ?_;refine zR 2 (fun _=>[(4,.bool (decide ((ce (fun x:Rf=>!aO W x.tab) l) >= 0)))]) (fun _=>[.box [.map 1],.map (ak aa.str aa.bool W)]) ?_ ?_;refine bq kq ?_;refine cy (l:=[.bool (decide ((ce (fun x:Rf=>!aO W x.tab) l) >= 0))]) (.inr rfl) kq (by show aa.bool _=aa.bool _;rw [<- nL] <;> rfl) c5 c5 ?_ ?_;refine Eq.trans (b:=[.box [.map 1],.map (ak aa.str aa.bool W)]) kq ?_
 . rfl
 . simp [ax.belO,aM,aa.bel]
 iterate 4 kernel_rfl
def hpG (Z:List Sm) (M:Tm_) (s:BP) (W:List (List UInt8×Bool)):ae:=hpF Z M s++[.box [.ptr 0 0],.box [.full [],.full []],.box [.map 7],.map (ak aa.str aa.bool W)]
@[simp] theorem PW (r:Nat->Nat) (l:List (List UInt8×Bool)):nE r (ak aa.str aa.bool l)=ak aa.str aa.bool l:=qg (k:=0) (fun i hi=>absurd hi (Nat.not_lt_zero i)) _ zq
@[simp] theorem P4 (r:Nat->Nat) (l:Tm_):nE r (ak aa.str Tb.v l)=ak aa.str Tb.v l:=qg (k:=0) (fun i hi=>absurd hi (Nat.not_lt_zero i)) _ zq
noncomputable def c30:Code:=aF Tryz.f30
abbrev IC (Z:List Sm)(s:BP)(M:Tm_)(W:List (List UInt8×Bool))(t:Tb):List ax:=[.box [.imm (Z.map Sm.v),.map 1,.map 2,.own 3 0 s.2.length],.map (gm M),.map (ak aa.str aa.bool s.1),.arr 5 (s.2.map Pb.v) 0,.box [.ptr 0 0],.box [.full [],.full []],.box [.map 7],.map (ak aa.str aa.bool W),.box (Tb.cs t)]
abbrev LT (Z:List Sm)(s:BP)(M:Tm_)(W:List (List UInt8×Bool)):List ax:=[.box [.imm (Z.map Sm.v),.map 1,.map 2,.own 3 0 s.2.length],.map (gm M),.map (ak aa.str aa.bool s.1),.arr 5 (s.2.map Pb.v) 0,.box [.ptr 0 0],.box [.full [],.full []],.box [.map 7],.map (ak aa.str aa.bool W)]
theorem Of {p:Prop} (h:p:=by show aa.bool _=aa.bool _;unfold cO;first|(rw [(by assumption:aO s.1 t.name=true)];rfl)|(rw [Bool.eq_false_iff.2 (by assumption:¬ aO s.1 t.name=true)];rfl)):p:=h
theorem MC {p:Prop} (h:p:=by simp [iK,ax.ren,cV,aa.ren,mL,bD,eU,dM,-List.map_take,-List.map_drop,-List.map_append]):p:=h
theorem FQ (Z:List Sm) (M:Tm_) (s:BP) (W:List (List UInt8×Bool)) (t:Tb) (ht:t.ok):aE cx 30 [Tb.v t,.ptr 4 0,.ptr 6 0] (hpG Z M s W) (fun v h=>v=(.bool (cO s.1 W t))/\h=hpG Z M s W):=by
 have h3:=ht.r;refine am (cx:=cx) 18 8 [(ResultVar.tmp 4)] Tryz.func30 rfl rfl rfl rfl rfl zq ?_;show wpA cx 18 8 (at_ c30 []) _ _ _;refine zZ (fun _=>[(0,Tb.v t),(1,.ptr 4 0),(2,.ptr 6 0)]) (fun _=>(LT Z s M W)) ?_ ?_;apply zW 2 (mT [(3,.ptr 8 0)] [0]) (mH [] [.box (Tb.cs t)]);apply ao;refine zD cxM kq aj ?_;apply qu 6;refine qd (jK (a2:=0) (b2:=0) (ok:=false) (o:=2) (ek:=aa.str) (ev:=aa.bool) (l:=s.1) (k:=t.name) eo kq eM ty9 kq ty4 kq false kq) ?_ ?_ ?_ ?_;apply qu 1;by_cases hb1:(aO s.1 t.name)=true;refine bL 11 (.bool (aO s.1 t.name)) (.bool true) (bN aj) kq (congrArg aa.bool (hb1)) ?_;refine bL 12 (.bool (aO s.1 t.name)) (.bool true) (bN aj) kq (congrArg aa.bool (hb1)) ?_;apply qu 6;refine bh kq ⟨kq,?_⟩;refine zE (fun _=>[(4,.bool true)]) (fun _=>(IC Z s M W t)) ?_ ?_;refine bq kq ?_;refine cy (l:=[.bool true]) (.inr rfl) kq Of c5 c5 ?_ ?_;refine Eq.trans (b:=(LT Z s M W)) kq ?_
 . rfl
 rotate_left
 iterate 2 kernel_rfl
 refine bL 11 (.bool (aO s.1 t.name)) (.bool false) (bN aj) kq (congrArg aa.bool (Bool.eq_false_iff.2 hb1)) ?_;refine bL 12 (.bool (aO s.1 t.name)) (.bool false) (bN aj) kq (congrArg aa.bool (Bool.eq_false_iff.2 hb1)) ?_;apply qu 3;refine Lp (args:=[.imm (t.refs.map Rf.v),.fn (.func 32) [] [.ptr 6 0]]) (v:=.bool (t.refs.any (fun x:Rf=>!aO W x.tab))) (h':=(IC Z s M W t)) [6,7] (IC Z s M W t) kq kq kq kq kq kq (lO [6,7] (I4 t.refs W oq) rfl dq (by simp [aM,aa.bel,Ty.v,Ex.v,Ct.v,Co.v,Rf.v,Sm.v,Tb.v_cs,Sc.v,Md.v,Pb.v,Ls.v,-List.map_take,-List.map_drop,-List.map_append]) hP MC rfl MC rfl MC) (fun _ _=>rfl) kq ?_;apply qu 2;refine bh kq ⟨kq,?_⟩;refine zE (fun _=>[(4,.bool (t.refs.any (fun x:Rf=>!aO W x.tab)))]) (fun _=>(IC Z s M W t)) ?_ ?_;refine bq kq ?_;refine cy (l:=[.bool (t.refs.any (fun x:Rf=>!aO W x.tab))]) (.inr rfl) kq Of c5 c5 ?_ ?_;refine Eq.trans (b:=(LT Z s M W)) kq ?_
 . rfl
 rotate_left
 iterate 11 kernel_rfl
 all_goals
  simp [ax.belO,hpG,hpF,aM,aa.bel,Ty.v,Ex.v,Ct.v,Co.v,Rf.v,Sm.v,Tb.v_cs,Sc.v,Md.v,Pb.v,Ls.v,-List.map_take,-List.map_drop,-List.map_append]
end Go.Proofs.YtcpklndelobigaaGreatDoor
