/- A part of the proof: plain lemmas and walks. No condition. -/
import Derived.Test.YtcpklndelobigaaGreatDoorPD
set_option linter.all false
namespace Go.Proofs.YtcpklndelobigaaGreatDoor
open Go.Proofs.YtcpklndelobigaaGreatDoor.Abs
set_option maxRecDepth 20000
set_option maxHeartbeats 4000000
def ig (t:Ty):Bool:=decide (t.kind<=2)
def dn (c:Ct):Bool:=c.has && !ig c.arg
def mu (Z:List Sm) (t:Ty):Bool:=if t.kind=3 then (match Z.findIdx? (fun x=>x.name==t.name) with
 | some i=>!(Z.getD i Sm.zero).ctors.any dn
 | none=>false) else ig t
def SmQ (Z:List Sm):Prop:=Z.length<1000000/\∀ s∈Z,s.ctors.length<1000000/\∀ c∈s.ctors,Vq c.arg
theorem Em {Z:List Sm} {t:Ty} (h:¬ t.kind=3):mu Z t=ig t:=by rw [mu,if_neg h]
theorem LB {Z:List Sm} {t:Ty} (h:t.kind=3) {k:Nat} (hk:k<Z.length) (ha:∀ i,i<k->¬ ((Z.getD i Sm.zero).name==t.name)=true) (hn:((Z.getD k Sm.zero).name==t.name)=true):mu Z t=!(Z.getD k Sm.zero).ctors.any dn:=by
 have e:=eW (p:=fun x:Sm=>x.name==t.name) Sm.zero hk ha hn;rw [mu,if_pos h];unfold ce at e;split at e
 . rename_i i hi;rw [hi];have:k=i:=by omega
   subst this;rfl
 . omega
theorem Mz {Z:List Sm} {t:Ty} (h:t.kind=3) (ha:∀ i,i<Z.length->¬ ((Z.getD i Sm.zero).name==t.name)=true):mu Z t=false:=by
 have e:=e7 (p:=fun x:Sm=>x.name==t.name) Sm.zero ha;rw [mu,if_pos h];unfold ce at e;split at e
 . omega
 . rename_i hi;rw [hi]
theorem Gh {Z:List Sm} {t:Ty} (h:t.kind=3) (hi:ce (fun x:Sm=>x.name==t.name) Z >= 0):mu Z t=!(Z.getD (ce (fun x:Sm=>x.name==t.name) Z).toNat Sm.zero).ctors.any dn:=by
 rw [mu,if_pos h];unfold ce at hi ⊢;split
 . rename_i i e;rw [e];simp [e]
 . rename_i e;rw [e] at hi;simp at hi
theorem My {Z:List Sm} {t:Ty} (h:t.kind=3) (hi:ce (fun x:Sm=>x.name==t.name) Z<0):mu Z t=false:=by
 rw [mu,if_pos h];unfold ce at hi;split at hi
 . omega
 . rename_i e;rw [e]
theorem Hf {α:Type} (p:α->Bool) (l:List α):ce p l<((l.length:Nat):Int)/\-1<=ce p l:=by
 unfold ce;split
 . rename_i i h;obtain ⟨h1,_⟩:=List.findIdx?_eq_some_iff_getElem.1 h;omega
 . omega
theorem sa {Z:List Sm} (h:SmQ Z) {i:Nat} (hi:i<Z.length):(Z.getD i Sm.zero).ctors.length<1000000/\∀ k,k<(Z.getD i Sm.zero).ctors.length->Vq ((Z.getD i Sm.zero).ctors.getD k Ct.zero).arg:=by
 have:=h.2 _ (bF Z Sm.zero i hi);exact ⟨this.1,fun k hk=>this.2 _ (bF _ _ _ hk)⟩
noncomputable def RN:Code:=aF Tryz.f190
theorem mn (t:Ty) (hq:Vq t):af cx 190 [Ty.v t] (.bool (ig t)):=by
 refine am (cx:=cx) 10 0 [(ResultVar.tmp 2)] Tryz.func190 rfl rfl rfl rfl rfl zq ?_;show wpA cx 10 0 (at_ RN []) _ _ _;refine zZ (fun _=>[(0,Ty.v t)]) (fun _=>[]) ?_ ?_;refine zW 2 (fun _=>[(1,.ptr 0 0)]) (fun _=>[t.bx]) ?_ ?_;apply zV 4;by_cases hb1:(t.kind)<=2;apply zm [5,6] (decide_eq_true hb1);apply qr 1;refine qP (hq.p) aH aH aH kq ?_;apply qX 2;refine aJ (b:=true) (.inr rfl) kq ?_
 . simp [ig, *]
 iterate 3 kernel_rfl
 apply zm [5,6] (decide_eq_false hb1);apply qX 4;refine aJ (b:=false) (.inr rfl) kq ?_
 . simp [ig, *]
 iterate 5 kernel_rfl
noncomputable def RA:Code:=aF Tryz.f170
theorem pb (t:Ty) (hq:Vq t):af cx 170 [Ty.v t] (.bool (ig t)):=by
 have hk0:=hq.k;refine am (cx:=cx) 22 0 [(ResultVar.tmp 2)] Tryz.func170 rfl rfl rfl rfl rfl zq ?_;show wpA cx 22 0 (at_ RA []) _ _ _;refine zZ (fun _=>[(0,Ty.v t)]) (fun _=>[]) ?_ ?_;apply zW 2 (mT [(1,.ptr 0 0)] [0]) (mH [] [t.bx]);apply zV 1;refine qP (hq.r) aH aH aH kq ?_;refine zR 1 (fun _=>[(1,.ptr 0 0),(3,.bool true)]) (fun _=>[t.bx]) ?_ ?_;apply zV 6;by_cases hb1:(t.kind)=0;apply zm [10,11] (beq_iff_eq.2 hb1);apply qX 11;refine aJ (b:=true) (.inr rfl) kq ?_
 rotate_left
 iterate 2 kernel_rfl
 apply zm [10,11] (beq_eq_false_iff_ne.2 hb1);apply qr 5;by_cases hb2:(t.kind)=1;apply zm [14,15,16] (beq_iff_eq.2 hb2);apply qX 6;refine aJ (b:=true) (.inr rfl) kq ?_
 rotate_left
 iterate 2 kernel_rfl
 apply zm [14,15,16] (beq_eq_false_iff_ne.2 hb2);apply qX 6;refine aJ (b:=((t.kind)==2)) (.inr rfl) kq ?_;by_cases hb3:(t.kind)=2;refine Eq.trans (beq_iff_eq.2 hb3) ?_
 rotate_left
 refine Eq.trans (beq_eq_false_iff_ne.2 hb3) ?_
 rotate_left
 iterate 9 kernel_rfl
 all_goals
  simp only [ig];first|(rw [decide_eq_true oq];done)|(rw [decide_eq_false oq];done)|(simp [*];done)
noncomputable def RB:Code:=aF Tryz.f188
theorem Fh (x:Sm) (t:Ty) :aE cx 188 [Sm.v x,.ptr 0 0] [t.bx] (fun v h=>v=(.bool (x.name==t.name))/\h=[t.bx]):=by
 refine am (cx:=cx) 9 1 [(ResultVar.tmp 3)] Tryz.func188 rfl rfl rfl rfl rfl zq ?_;show wpA cx 9 1 (at_ RB []) _ _ _;refine zZ (fun _=>[(0,Sm.v x),(1,.ptr 0 0)]) (fun _=>[t.bx]) ?_ ?_;apply zW 2 (mT [(2,.ptr 1 0)] [0]) (mH [] [.box [.str x.name,.imm (x.ctors.map Ct.v)]]);refine zW 6 (fun _=>[(3,.bool (x.name==t.name))]) (fun _=>[t.bx,.box [.str x.name,.imm (x.ctors.map Ct.v)]]) ?_ ?_;refine bq kq ?_;refine cy (l:=[.bool (x.name==t.name)]) (.inr rfl) kq (by rfl) fN fN ?_ ?_;refine Eq.trans (b:=[t.bx]) kq ?_
 . rfl
 . simp [ax.belO,aM,aa.bel,Ty.v]
 iterate 3 kernel_rfl
noncomputable def QZ:Code:=aF Tryz.f187
theorem Oi {p:Prop} (h:p:=by show aa.int _ _=aa.int _ _;first|rw [<- eW (p:=fun x:Sm=>x.name==t.name) Sm.zero (l:=l) (k:=k) oq ha aq]|rw [<- e7 (p:=fun x:Sm=>x.name==t.name) Sm.zero (l:=l) (fun i hi=>ha i oq)]):p:=h
theorem mE {p:Prop} (h:p:=by simp [ax.belO,aM,aa.bel,Ty.v]):p:=h
theorem EX (l:List Sm) (t:Ty) (hn:l.length<1000000000):aE cx 187 [.imm (l.map Sm.v),.fn (.func 188) [] [.ptr 0 0]] [t.bx] (fun v h=>v=(.int .i64 (ce (fun x:Sm=>x.name==t.name) l))/\h=[t.bx]):=by
 refine am (cx:=cx) 19 1 [(ResultVar.tmp 4)] Tryz.func187 rfl rfl rfl rfl rfl zq ?_;show wpA cx 19 1 (at_ QZ []) _ _ _;refine zZ (fun _=>[(0,.imm (l.map Sm.v)),(1,.fn (.func 188) [] [.ptr 0 0])]) (fun _=>[t.bx]) ?_ ?_;apply zW 1 id id;apply ao;apply zV 1;refine qy (aw (l:=l) (enc:=Sm.v) kq cK) ?_ ?_ ?_;apply zR 1 (mU [(7,nI l.length),(8,.int .i64 0)]) id;apply qB 0;refine aU (σ:=Nat) (fun k=>[(0,.imm (l.map Sm.v)),(1,.fn (.func 188) [] [.ptr 0 0]),(7,.int .i64 ((l.length:Nat):Int)),(8,.int .i64 ((k:Nat):Int))]) (fun k=>[t.bx]) (fun k=>k<=l.length/\∀ i,i<k->¬ ((l.getD i Sm.zero).name==t.name)=true) (fun k=>l.length - k) 0 kq (by exact ⟨Nat.zero_le _,fun i h=>absurd h (Nat.not_lt_zero i)⟩) (fg kq kq az mE) ?_;rintro k ⟨hk,ha⟩;apply zW 1 (mU [(9,.bool (decide (((k:Nat):Int)<((l.length:Nat):Int))))]) id;apply ao;by_cases hb1:((k:Nat):Int)<((l.length:Nat):Int);apply qt (decide_eq_true hb1);apply qK;apply zZ (mT [] [9]) id;apply ao;apply qB 1;apply zW 2 (mU [(5,nI k)]) id;apply zV 3;refine qy ((av (k:=.i64) (l:=l) (enc:=Sm.v) (i:=((k:Nat):Int)) Sm.zero kq cK en (fun _=>rfl) oq oq).trans (congrArg (fun cs=>some (aa.pimm cs 0,_)) (dQ (l.getD k Sm.zero)))) ?_ ?_ ?_;apply qr 1;refine qA (Fh (l.getD k Sm.zero) t) mE mE rfl mE mE kq ?_;apply zN (mU [(16,.bool ((l.getD k Sm.zero).name==t.name))]) id;by_cases hb2:((l.getD k Sm.zero).name==t.name)=true;apply qt (hb2);refine zW 2 (fun _=>[(4,nI k)]) (fun _=>[t.bx]) ?_ ?_;refine bq kq ?_;apply iR;apply aR;apply aR;apply iR;apply aR;refine cy (l:=[.int .i64 ((k:Nat):Int)]) (.inr rfl) kq Oi fN fN ?_ ?_;refine Eq.trans (b:=[t.bx]) kq ?_
 . rfl
 . simp [ax.belO,aM,aa.bel,Ty.v]
 iterate 2 kernel_rfl
 apply qf (Bool.eq_false_iff.2 hb2);apply qk;apply ag;apply ab;apply zZ (mT [] [5,16]) id;apply qo;refine qy (aA (a:=((k:Nat):Int)) (b:=1) kq oq oq) ?_ ?_ ?_;apply qr 1;apply qe;refine ab ⟨k+1,?_,?_,(fg kq kq az mE)⟩
 . omega
 . refine ⟨by omega,fun i hi=>?_⟩;rcases Nat.lt_succ_iff_lt_or_eq.1 hi with h|h
   . exact ha i h
   . subst h;assumption
 iterate 20 kernel_rfl
 apply qf (decide_eq_false hb1);refine aK 0 kq kq ?_;apply ac;apply ac;apply au;apply ab;refine zZ (fun _=>[]) id ?_ ?_;refine zW 1 (fun _=>[(4,.int .i64 (-1))]) (fun _=>[t.bx]) ?_ ?_;refine bq kq ?_;refine cy (l:=[.int .i64 (-1)]) (.inr rfl) kq Oi fN fN ?_ ?_;refine Eq.trans (b:=[t.bx]) kq ?_
 . rfl
 . simp [ax.belO,aM,aa.bel,Ty.v]
 iterate 14 kernel_rfl
noncomputable def QA:Code:=aF Tryz.f191
theorem DO (c:Ct) (hq:Vq c.arg):af cx 191 [Ct.v c] (.bool (dn c)):=by
 refine am (cx:=cx) 11 0 [(ResultVar.tmp 2)] Tryz.func191 rfl rfl rfl rfl rfl zq ?_;show wpA cx 11 0 (at_ QA []) _ _ _;refine zZ (fun _=>[(0,Ct.v c)]) (fun _=>[]) ?_ ?_;refine zW 2 (fun _=>[(1,.ptr 0 0)]) (fun _=>[.box [.str c.name,.bool (c.has),.int .i64 (c.arg.kind),.str c.arg.name,.int .i64 (c.arg.n),.imm (c.arg.names.map aa.str),.imm (c.arg.kids.map Ty.enc)]]) ?_ ?_;apply zV 3;by_cases hb1:(c.has)=true;apply zm [4,5] (hb1);apply qr 2;refine qP (mn c.arg hq) aH aH aH kq ?_;apply qX 3;refine aJ (b:=(!(ig c.arg))) (.inr rfl) kq ?_
 . simp [dn, *]
 iterate 3 kernel_rfl
 apply zm [4,5] (Bool.eq_false_iff.2 hb1);apply qX 6;refine aJ (b:=false) (.inr rfl) kq ?_
 . simp [dn, *]
 iterate 5 kernel_rfl
noncomputable def QB:Code:=aF Tryz.f228
theorem DW (l:List Ct) (hc:∀ k,k<l.length->Vq (l.getD k Ct.zero).arg) (hn:l.length<1000000000):af cx 228 [.imm (l.map Ct.v),.fn (.func 191) [] []] (.int .i64 (ce dn l)):=by
 refine am (cx:=cx) 19 0 [(ResultVar.tmp 4)] Tryz.func228 rfl rfl rfl rfl rfl zq ?_;show wpA cx 19 0 (at_ QB []) _ _ _;refine zZ (fun _=>[(0,.imm (l.map Ct.v)),(1,.fn (.func 191) [] [])]) (fun _=>[]) ?_ ?_;apply zW 1 id id;apply ao;apply zV 1;refine qy (aw (l:=l) (enc:=Ct.v) kq iL) ?_ ?_ ?_;apply zR 1 (mU [(7,nI l.length),(8,.int .i64 0)]) id;apply qB 0;refine aU (σ:=Nat) (fun k=>[(0,.imm (l.map Ct.v)),(1,.fn (.func 191) [] []),(7,.int .i64 ((l.length:Nat):Int)),(8,.int .i64 ((k:Nat):Int))]) (fun k=>[]) (fun k=>k<=l.length/\∀ i,i<k->¬ dn (l.getD i Ct.zero)=true) (fun k=>l.length - k) 0 kq zq (fg kq kq az kJ) ?_;rintro k ⟨hk,ha⟩;apply zW 1 (mU [(9,.bool (decide (((k:Nat):Int)<((l.length:Nat):Int))))]) id;apply ao;by_cases hb1:((k:Nat):Int)<((l.length:Nat):Int);apply qt (decide_eq_true hb1);apply qK;apply zZ (mT [] [9]) id;apply ao;apply qB 1;apply zW 2 (mU [(5,nI k)]) id;apply zV 3;refine qy ((av (k:=.i64) (l:=l) (enc:=Ct.v) (i:=((k:Nat):Int)) Ct.zero kq iL ka (fun _=>rfl) oq oq).trans (congrArg (fun cs=>some (aa.pimm cs 0,_)) (ej (l.getD k Ct.zero)))) ?_ ?_ ?_;apply qr 1;refine qP (DO _ (hc k oq)) aH aH aH kq ?_;refine zN (fun _=>[(0,.imm (l.map Ct.v)),(1,.fn (.func 191) [] []),(5,nI k),(7,nI l.length),(8,nI k),(16,.bool (dn (l.getD k Ct.zero)))]) (fun _=>[]) ?_ ?_;by_cases hb2:(dn (l.getD k Ct.zero))=true;apply qt (hb2);apply zV 2;apply qT;apply iR;apply aR;apply aR;apply iR;apply aR;refine fe (n:=((k:Nat):Int)) (.inr rfl) kq ?_
 rotate_left
 iterate 3 kernel_rfl
 apply qf (Bool.eq_false_iff.2 hb2);apply qk;apply ag;apply ab;apply zZ (mT [] [5,16]) id;apply qo;refine qy (aA (a:=((k:Nat):Int)) (b:=1) kq oq oq) ?_ ?_ ?_;apply qr 1;apply qe;refine ab ⟨k+1,?_,?_,(fg kq kq az kJ)⟩
 . omega
 . refine ⟨by omega,fun i hi=>?_⟩;rcases Nat.lt_succ_iff_lt_or_eq.1 hi with h|h
   . exact ha i h
   . subst h;assumption
 iterate 20 kernel_rfl
 apply qf (decide_eq_false hb1);refine aK 0 kq kq ?_;apply ac;apply ac;apply au;apply ab;refine zZ (fun _=>[]) (fun _=>[]) ?_ ?_;apply zV 1;apply qT;refine fe (n:=(-1)) (.inr rfl) kq ?_
 rotate_left
 iterate 15 kernel_rfl
 all_goals
  first|exact eW (p:=dn) Ct.zero (l:=l) (k:=k) oq ha aq|exact e7 (p:=dn) Ct.zero (l:=l) (fun i hi=>ha i oq)
noncomputable def P5:Code:=aF Tryz.f175
theorem Df (l:List Ct) (hc:∀ k,k<l.length->Vq (l.getD k Ct.zero).arg) (hn:l.length<1000000000):af cx 175 [.imm (l.map Ct.v),.fn (.func 191) [] []] (.bool (l.any dn)):=by
 refine am (cx:=cx) 9 0 [(ResultVar.tmp 4)] Tryz.func175 rfl rfl rfl rfl rfl zq ?_;show wpA cx 9 0 (at_ P5 []) _ _ _;refine zZ (fun _=>[(0,.imm (l.map Ct.v)),(1,.fn (.func 191) [] [])]) (fun _=>[]) ?_ ?_;refine zW 1 (fun _=>[(0,.imm (l.map Ct.v)),(1,.fn (.func 191) [] [])]) (fun _=>[]) ?_ ?_;apply zV 2;refine qP (DW l hc oq) aH aH aH kq ?_;apply qX 2;refine aJ (b:=(decide ((ce dn l) >= 0))) (.inr rfl) kq ?_
 . exact nL dn l
 iterate 4 kernel_rfl
def ctB (c:Ct):Bool:=bif c.has then clB c.arg else c.arg.beq (Ty.mk 0 [] 0 [] [])
def LE (c:Ct) (u:Bool):Bool:=(u || (c.name==[73,110,116] || (c.name==[84,101,120,116] || c.name==[66,111,111,108]))) && ctB c
theorem KO {Z:List Sm} {t:Ty} (h:t.kind=3) {k:Nat} (hk:k<Z.length) (ha:∀ i,i<k->¬ (Z.getD i Sm.zero).name=t.name) (hn:(Z.getD k Sm.zero).name=t.name):mu Z t=!(Z.getD k Sm.zero).ctors.any dn :=
 LB h hk (fun i hi=>by have:=ha i hi;simpa using this) (by simpa using hn)
theorem Pc {Z:List Sm} {t:Ty} (h:t.kind=3) (ha:∀ i,i<Z.length->¬ (Z.getD i Sm.zero).name=t.name):mu Z t=false:=Mz h (fun i hi=>by have:=ha i hi;simpa using this)
theorem Oc {l:List Ct} {j:Nat} (hj:j<l.length) (h:dn (l.getD j Ct.zero)=true):l.any dn=true:=List.any_eq_true.2 ⟨_,bF l Ct.zero j hj,h⟩
theorem NE {l:List Ct} (h:∀ j,j<l.length->¬ dn (l.getD j Ct.zero)=true):l.any dn=false:=by
 rw [List.any_eq_false];intro x hx;obtain ⟨i,hi,rfl⟩:=List.getElem_of_mem hx;have:=h i hi
 rwa [List.getD_eq_getElem?_getD,List.getElem?_eq_getElem hi] at this
theorem OL {c:Ct} (h:¬ c.has=true):¬ dn c=true:=by rw [dn,Bool.eq_false_iff.2 h];simp
theorem NC {c:Ct} (h:ig c.arg=true):¬ dn c=true:=by rw [dn,h];simp
theorem R0 {c:Ct} (h:c.has=true) (h2:¬ ig c.arg=true):dn c=true:=by rw [dn,h,Bool.eq_false_iff.2 h2];rfl
theorem Qc {t:Ty} (h:t.kind=3):ig t=false:=by rw [ig,h];rfl
noncomputable def c71:Code:=aF Tryz.f71
abbrev mM (c:Ct):List ax:=[.box [.str c.name,.bool (c.has),.int .i64 (c.arg.kind),.str c.arg.name,.int .i64 (c.arg.n),.imm (c.arg.names.map aa.str),.imm (c.arg.kids.map Ty.enc)]]
abbrev Ey (c:Ct):List aa:=[.agg [.int .i64 (c.arg.kind),.str c.arg.name,.int .i64 (c.arg.n),.imm (c.arg.names.map aa.str),.imm (c.arg.kids.map Ty.enc)],.agg fw]
abbrev vP :=(Ty.mk 0 [] 0 [] [])
theorem FN {p:Prop} (h:p:=by first|omega|assumption):p:=h
theorem DX (c:Ct) (hp:Vp c.arg) (hs:c.arg.sz<100000000):af cx 71 [Ct.v c] (.bool (ctB c)):=by
 refine am (cx:=cx) 12 0 [(ResultVar.tmp 2)] Tryz.func71 rfl rfl rfl rfl rfl zq ?_;show wpA cx 12 0 (at_ c71 []) _ _ _;refine zZ (fun _=>[(0,Ct.v c)]) (fun _=>[]) ?_ ?_;apply zW 2 (mT [(1,.ptr 0 0)] [0]) (mH [] (mM c));apply ao;refine zW 2 (fun _=>[(1,.ptr 0 0),(4,.bool (c.has))]) (fun _=>(mM c)) ?_ ?_;by_cases hb1:(c.has)=true;apply qt (hb1);apply zV 2;refine qP (vW c.arg hs hp) aH aH aH kq ?_;apply qX 1;apply aR;refine aJ (b:=(clB c.arg)) (.inr rfl) kq ?_
 . simp [ctB, *]
 iterate 3 kernel_rfl
 apply qf (Bool.eq_false_iff.2 hb1);apply qK;refine zZ (fun _=>[(1,.ptr 0 0)]) (fun _=>(mM c)) ?_ ?_;apply zV 3;refine my (args:=(Ey c)) kq kq kq kq (pd c.arg vP FN) aH aH aH ?_;apply qX 1;refine aJ (b:=(c.arg.beq (Ty.mk 0 [] 0 [] []))) (.inr rfl) kq ?_
 . simp [ctB, *]
 iterate 9 kernel_rfl
noncomputable def c88:Code:=aF Tryz.f88
theorem zb (c:Ct) (u:Bool) (hu:af cx 87 [.str c.name] (.bool u)) (hp:Vp c.arg) (hs:c.arg.sz<100000000):af cx 88 [Ct.v c] (.bool (LE c u)):=by
 refine am (cx:=cx) 39 0 [(ResultVar.tmp 2)] Tryz.func88 rfl rfl rfl rfl rfl zq ?_;show wpA cx 39 0 (at_ c88 []) _ _ _;refine zZ (fun _=>[(0,Ct.v c)]) (fun _=>[]) ?_ ?_;apply zW 2 (mT [(1,.ptr 0 0)] [0]) (mH [] (mM c));apply zV 2;apply qc [.str c.name] (hu);apply zR 1 (mU [(3,.bool (u))]) id;apply ao;apply zV 4;by_cases hb1:c.name=[73,110,116];apply zm [11,12] (beq_iff_eq.2 hb1);apply zR 9 (mU [(21,.bool true)]) id;refine cJ kq kq ?_;apply qo;apply qR 1 [(1,.ptr 0 0),(3,.bool true)] (mM c);apply ao;apply zW 2 (mU [(23,.bool (c.has))]) id;by_cases hb2:(c.has)=true;apply qt (hb2);apply zV 2;refine qP (gG c.arg hs hp) aH aH aH kq ?_;refine zR 1 (fun _=>[(3,.bool true),(4,.bool (clB c.arg))]) (fun _=>(mM c)) ?_ ?_;apply zV 5;apply qT;apply aR;refine aJ (b:=(clB c.arg)) (.inr rfl) kq ?_
 rotate_left
 iterate 5 kernel_rfl
 apply qf (Bool.eq_false_iff.2 hb2);apply qK;apply zZ (mT [] [23]) id;apply zV 3;refine my (args:=(Ey c)) kq kq kq kq (d9 c.arg vP FN) aH aH aH ?_;refine zR 1 (fun _=>[(3,.bool true),(5,.bool (c.arg.beq vP))]) (fun _=>(mM c)) ?_ ?_;apply zV 5;apply qT;refine aJ (b:=(c.arg.beq (Ty.mk 0 [] 0 [] []))) (.inr rfl) kq ?_
 rotate_left
 iterate 13 kernel_rfl
 apply zm [11,12] (beq_eq_false_iff_ne.2 hb1);apply qr 5;by_cases hb3:c.name=[84,101,120,116];apply zm [15,16,17] (beq_iff_eq.2 hb3);apply zR 4 (mU [(21,.bool true)]) id;refine cJ kq kq ?_;apply qo;apply qR 1 [(1,.ptr 0 0),(3,.bool true)] (mM c);apply ao;apply zW 2 (mU [(23,.bool (c.has))]) id;by_cases hb4:(c.has)=true;apply qt (hb4);apply zV 2;refine qP (gG c.arg hs hp) aH aH aH kq ?_;refine zR 1 (fun _=>[(3,.bool true),(4,.bool (clB c.arg))]) (fun _=>(mM c)) ?_ ?_;apply zV 5;apply qT;apply aR;refine aJ (b:=(clB c.arg)) (.inr rfl) kq ?_
 rotate_left
 iterate 5 kernel_rfl
 apply qf (Bool.eq_false_iff.2 hb4);apply qK;apply zZ (mT [] [23]) id;apply zV 3;refine my (args:=(Ey c)) kq kq kq kq (d9 c.arg vP FN) aH aH aH ?_;refine zR 1 (fun _=>[(3,.bool true),(5,.bool (c.arg.beq vP))]) (fun _=>(mM c)) ?_ ?_;apply zV 5;apply qT;refine aJ (b:=(c.arg.beq (Ty.mk 0 [] 0 [] []))) (.inr rfl) kq ?_
 rotate_left
 iterate 13 kernel_rfl
 apply zm [15,16,17] (beq_eq_false_iff_ne.2 hb3);apply zR 4 (mU [(21,.bool (c.name==[66,111,111,108]))]) id;by_cases hb5:c.name=[66,111,111,108];apply qt (beq_iff_eq.2 hb5);apply qo;apply qR 1 [(1,.ptr 0 0),(3,.bool true)] (mM c);apply ao;apply zW 2 (mU [(23,.bool (c.has))]) id;by_cases hb6:(c.has)=true;apply qt (hb6);apply zV 2;refine qP (gG c.arg hs hp) aH aH aH kq ?_;refine zR 1 (fun _=>[(3,.bool true),(4,.bool (clB c.arg))]) (fun _=>(mM c)) ?_ ?_;apply zV 5;apply qT;apply aR;refine aJ (b:=(clB c.arg)) (.inr rfl) kq ?_
 rotate_left
 iterate 5 kernel_rfl
 apply qf (Bool.eq_false_iff.2 hb6);apply qK;apply zZ (mT [] [23]) id;apply zV 3;refine my (args:=(Ey c)) kq kq kq kq (d9 c.arg vP FN) aH aH aH ?_;refine zR 1 (fun _=>[(3,.bool true),(5,.bool (c.arg.beq vP))]) (fun _=>(mM c)) ?_ ?_;apply zV 5;apply qT;refine aJ (b:=(c.arg.beq (Ty.mk 0 [] 0 [] []))) (.inr rfl) kq ?_
 rotate_left
 iterate 12 kernel_rfl
 apply qf (beq_eq_false_iff_ne.2 hb5);apply qK;apply zZ (mT [] [21]) id;apply ao;apply zW 2 (mU [(23,.bool (c.has))]) id;by_cases hb7:(c.has)=true;apply qt (hb7);apply zV 2;refine qP (gG c.arg hs hp) aH aH aH kq ?_;refine zR 1 (fun _=>[(3,.bool (u)),(4,.bool (clB c.arg))]) (fun _=>(mM c)) ?_ ?_;apply zV 2;by_cases hb8:(u)=true;apply zm [3,27,28] (hb8);apply qX 3;apply aR;refine aJ (b:=(clB c.arg)) (.inr rfl) kq ?_
 rotate_left
 iterate 2 kernel_rfl
 apply zm [3,27,28] (Bool.eq_false_iff.2 hb8);apply qX 3;apply aR;refine aJ (b:=false) (.inr rfl) kq ?_
 rotate_left
 iterate 6 kernel_rfl
 apply qf (Bool.eq_false_iff.2 hb7);apply qK;apply zZ (mT [] [23]) id;apply zV 3;refine my (args:=(Ey c)) kq kq kq kq (d9 c.arg vP FN) aH aH aH ?_;refine zR 1 (fun _=>[(3,.bool (u)),(5,.bool (c.arg.beq vP))]) (fun _=>(mM c)) ?_ ?_;apply zV 2;by_cases hb9:(u)=true;apply zm [3,35,36] (hb9);apply qX 3;refine aJ (b:=(c.arg.beq (Ty.mk 0 [] 0 [] []))) (.inr rfl) kq ?_
 rotate_left
 iterate 2 kernel_rfl
 apply zm [3,35,36] (Bool.eq_false_iff.2 hb9);apply qX 3;refine aJ (b:=false) (.inr rfl) kq ?_
 rotate_left
 iterate 24 kernel_rfl
 all_goals
  simp [LE,ctB, *]
noncomputable def Qa:Code:=aF Tryz.f136
abbrev yS (Z:List Sm):Nat×aa:=(0,.imm (Z.map Sm.v))
theorem Gs (Z:List Sm) (t:Ty) (hq:Vq t) (hs:SmQ Z):af cx 136 [.imm (Z.map Sm.v),Ty.v t] (.bool (mu Z t)):=by
 have hix:=Hf (fun x:Sm=>x.name==t.name) Z;have hn:=hs.1;refine am (cx:=cx) 30 0 [(ResultVar.tmp 4)] Tryz.func136 rfl rfl rfl rfl rfl zq ?_;show wpA cx 30 0 (at_ Qa []) _ _ _;refine zZ (fun _=>[(yS Z),(1,Ty.v t)]) (fun _=>[]) ?_ ?_;apply zW 2 (mT [(3,.ptr 0 0)] [1]) (mH [] [t.bx]);apply zV 2;refine qA (EX Z t oq) mE mE rfl mE mE kq ?_;refine zR 1 (mU [(5,.int .i64 (ce (fun x:Sm=>x.name==t.name) Z))]) id ?_ ?_;apply ao;apply zV 4;by_cases hb1:(t.kind)=3;refine zm [11,12] (x:=((t.kind) != 3)) (bne_eq_false_iff_eq.2 hb1) ?_ ?_;apply qr 1;refine qP (hq.p) aH aH aH kq ?_;refine zR 6 (fun _=>[(yS Z),(3,.ptr 0 0),(5,.int .i64 (ce (fun x:Sm=>x.name==t.name) Z)),(20,.bool (decide ((ce (fun x:Sm=>x.name==t.name) Z)<0)))]) (fun _=>[t.bx]) ?_ ?_;by_cases hb2:(ce (fun x:Sm=>x.name==t.name) Z)<0;apply qt (decide_eq_true hb2);apply zV 1;refine qP (mn t hq) aH aH aH kq ?_;apply qX 1;apply aR;refine aJ (b:=(ig t)) (.inr rfl) kq ?_
 rotate_left
 iterate 3 kernel_rfl
 apply qf (decide_eq_false hb2);apply qK;refine zZ (fun _=>[(yS Z),(5,.int .i64 (ce (fun x:Sm=>x.name==t.name) Z))]) (fun _=>[t.bx]) ?_ ?_;apply zV 2;refine qy ((av (k:=.i64) (l:=Z) (enc:=Sm.v) (i:=(ce (fun x:Sm=>x.name==t.name) Z)) Sm.zero kq cK en (fun _=>rfl) oq oq).trans (congrArg (fun cs=>some (aa.pimm cs 0,_)) (dQ (Z.getD (((ce (fun x:Sm=>x.name==t.name) Z)).toNat) Sm.zero)))) ?_ ?_ ?_;apply qr 2;refine qP (Df _ (sa hs (i:=(ce (fun x:Sm=>x.name==t.name) Z).toNat) oq).2 (Nat.lt_trans (sa hs (i:=(ce (fun x:Sm=>x.name==t.name) Z).toNat) oq).1 dq)) aH aH aH kq ?_;apply qX 2;refine aJ (b:=(!(((Z.getD (((ce (fun x:Sm=>x.name==t.name) Z)).toNat) Sm.zero).ctors).any dn))) (.inr rfl) kq ?_
 rotate_left
 iterate 11 kernel_rfl
 refine zm [11,12] (x:=((t.kind) != 3)) (bne_iff_ne.2 hb1) ?_ ?_;refine zR 8 (fun _=>[(yS Z),(3,.ptr 0 0),(5,.int .i64 (ce (fun x:Sm=>x.name==t.name) Z)),(20,.bool true)]) (fun _=>[t.bx]) ?_ ?_;refine cJ kq kq ?_;apply zV 1;refine qP (mn t hq) aH aH aH kq ?_;apply qX 1;apply aR;refine aJ (b:=(ig t)) (.inr rfl) kq ?_
 rotate_left
 iterate 10 kernel_rfl
 all_goals
  first|exact (Em aq).symm|(rw [My aq aq,Qc aq];done)|(rw [Gh aq oq];simp [*];done)|(rw [Gh aq oq];done)
noncomputable def c92:Code:=aF Tryz.f92
abbrev uE (Z:List Sm)(i:Nat)(j:Nat):=((Z.getD i Sm.zero).ctors.getD j Ct.zero)
abbrev rm (Z:List Sm)(i:Nat):=(Z.getD i Sm.zero)
theorem D0 (Z:List Sm) (t:Ty) (hq:Vq t) (hs:SmQ Z):af cx 92 [.imm (Z.map Sm.v),Ty.v t] (.bool (mu Z t)):=by
 have hn:=hs.1;refine am (cx:=cx) 67 0 [(ResultVar.tmp 4)] Tryz.func92 rfl rfl rfl rfl rfl zq ?_;show wpA cx 67 0 (at_ c92 []) _ _ _;refine zZ (fun _=>[(yS Z),(1,Ty.v t)]) (fun _=>[]) ?_ ?_;apply zW 2 (mT [(3,.ptr 0 0)] [1]) (mH [] [t.bx]);apply zV 1;refine qP (hq.r) aH aH aH kq ?_;apply zR 1 (mU [(5,.bool true)]) id;apply ao;apply zW 7 (mT [(17,.bool ((t.kind) != 3))] [5]) id;by_cases hb1:(t.kind)=3;refine qf (x:=((t.kind) != 3)) (bne_eq_false_iff_eq.2 hb1) ?_ ?_;apply qK;apply zZ (mT [] [17]) id;apply ao;apply zW 1 (mU [(6,.int .i64 0)]) id;apply qB 0;refine aU (σ:=Nat) (fun i=>[(yS Z),(3,.ptr 0 0),(6,nI i)]) (fun i=>[t.bx]) (fun i=>i<=Z.length/\∀ a,a<i->¬ (Z.getD a Sm.zero).name=t.name) (fun i=>Z.length - i) 0 kq (by exact ⟨Nat.zero_le _,fun a h=>absurd h (Nat.not_lt_zero a)⟩) (fg kq kq az mE) ?_;rintro i ⟨hi,ha⟩;apply ao;apply zV 2;refine qy (aw (l:=Z) (enc:=Sm.v) kq cK) ?_ ?_ ?_;apply zR 1 (mU [(23,.bool (decide (((i:Nat):Int)<((Z.length:Nat):Int))))]) id;by_cases hb2:((i:Nat):Int)<((Z.length:Nat):Int);apply qt (decide_eq_true hb2);apply qK;apply zZ (mT [] [23]) id;apply ao;apply qB 1;apply ao;apply ao;refine zD cxM kq aj ?_;apply qu 2;refine qd ((av (k:=.i64) (l:=Z) (enc:=Sm.v) (i:=((i:Nat):Int)) Sm.zero kq cK en (fun _=>rfl) oq oq).trans (congrArg (fun cs=>some (aa.pimm cs 0,_)) (dQ (rm Z i)))) ?_ ?_ ?_ ?_;apply qu 5;refine bh kq ⟨kq,?_⟩;apply zE (mU [(33,.bool (!((rm Z i).name==t.name)))]) id;by_cases hb3:(Z.getD i Sm.zero).name=t.name;refine qf (x:=(!((rm Z i).name==t.name))) (congrArg not (beq_iff_eq.2 hb3)) ?_ ?_;apply qK;apply zZ (mT [] [3,33]) id;apply ao;apply zW 1 (mU [(7,.int .i64 0)]) id;apply qB 2;refine aU (σ:=Nat) (fun j=>[(yS Z),(6,nI i),(7,nI j)]) (fun j=>[t.bx]) (fun j=>j<=(Z.getD i Sm.zero).ctors.length/\∀ a,a<j->¬ dn ((Z.getD i Sm.zero).ctors.getD a Ct.zero)=true) (fun j=>(Z.getD i Sm.zero).ctors.length - j) 0 kq (by exact ⟨Nat.zero_le _,fun a h=>absurd h (Nat.not_lt_zero a)⟩) (fg kq kq az mE) ?_;rintro j ⟨hj,hb⟩;have hcl:=(sa hs (i:=i) oq).1;apply ao;apply zV 3;refine qy ((av (k:=.i64) (l:=Z) (enc:=Sm.v) (i:=((i:Nat):Int)) Sm.zero kq cK en (fun _=>rfl) oq oq).trans (congrArg (fun cs=>some (aa.pimm cs 0,_)) (dQ (rm Z i)))) ?_ ?_ ?_;apply qr 2;refine qy (aw (l:=(rm Z i).ctors) (enc:=Ct.v) kq iL) ?_ ?_ ?_;apply zR 1 (mU [(41,.bool (decide (((j:Nat):Int)<(((rm Z i).ctors.length:Nat):Int))))]) id;by_cases hb4:((j:Nat):Int)<(((Z.getD i Sm.zero).ctors.length:Nat):Int);apply qt (decide_eq_true hb4);apply qK;apply zZ (mT [] [41]) id;apply ao;apply qB 3;apply zV 2;refine qy ((av (k:=.i64) (l:=Z) (enc:=Sm.v) (i:=((i:Nat):Int)) Sm.zero kq cK en (fun _=>rfl) oq oq).trans (congrArg (fun cs=>some (aa.pimm cs 0,_)) (dQ (rm Z i)))) ?_ ?_ ?_;apply qr 3;refine qy ((av (k:=.i64) (l:=(rm Z i).ctors) (enc:=Ct.v) (i:=((j:Nat):Int)) Ct.zero kq iL ka (fun _=>rfl) oq oq).trans (congrArg (fun cs=>some (aa.pimm cs 0,_)) (ej (uE Z i j)))) ?_ ?_ ?_;apply qr 2;refine qP (pb ((uE Z i j).arg) (by first|exact hq|exact (sa hs (i:=i) oq).2 j oq)) aH aH aH kq ?_;apply zR 1 (mU [(8,.bool (ig ((uE Z i j).arg)))]) id;apply zV 2;refine qy ((av (k:=.i64) (l:=Z) (enc:=Sm.v) (i:=((i:Nat):Int)) Sm.zero kq cK en (fun _=>rfl) oq oq).trans (congrArg (fun cs=>some (aa.pimm cs 0,_)) (dQ (rm Z i)))) ?_ ?_ ?_;apply qr 3;refine qy ((av (k:=.i64) (l:=(rm Z i).ctors) (enc:=Ct.v) (i:=((j:Nat):Int)) Ct.zero kq iL ka (fun _=>rfl) oq oq).trans (congrArg (fun cs=>some (aa.pimm cs 0,_)) (ej (uE Z i j)))) ?_ ?_ ?_;apply qr 3;by_cases hb5:(((Z.getD i Sm.zero).ctors.getD j Ct.zero).has)=true;apply zm [62,63] (hb5);apply zR 3 (mT [(64,.bool (ig ((uE Z i j).arg))),(65,.bool (!(ig ((uE Z i j).arg)))),(66,.bool (!(ig ((uE Z i j).arg))))] [8]) id;by_cases hb6:(ig (((Z.getD i Sm.zero).ctors.getD j Ct.zero).arg))=true;refine qf (x:=(!(ig ((uE Z i j).arg)))) (congrArg not (hb6)) ?_ ?_;apply qk;apply ag;apply ab;apply zZ (mT [] [66]) id;apply qo;apply qr 1;refine qy (aA (a:=((j:Nat):Int)) (b:=1) kq oq oq) ?_ ?_ ?_;apply qr 1;apply qe;refine ab ⟨j+1,?_,?_,(fg kq kq az mE)⟩
 . omega
 . refine ⟨by omega,fun a h=>?_⟩;rcases Nat.lt_succ_iff_lt_or_eq.1 h with h|h
   . exact hb a h
   . subst h;first|exact OL aq|exact NC aq
 iterate 9 kernel_rfl
 refine qt (x:=(!(ig ((uE Z i j).arg)))) (congrArg not (Bool.eq_false_iff.2 hb6)) ?_ ?_;apply zV 1;apply qT;apply iR;apply aR;apply aR;apply iR;apply aR;apply iR;apply aR;apply aR;apply iR;apply aR;refine aJ (b:=false) (.inr rfl) kq ?_
 rotate_left
 iterate 5 kernel_rfl
 apply zm [62,63] (Bool.eq_false_iff.2 hb5);apply zR 3 (mT [(64,.tup []),(65,.tup []),(66,.bool false)] [8]) id;refine fM kq kq ?_;apply qk;apply ag;apply ab;apply zZ (mT [] [66]) id;apply qo;apply qr 1;refine qy (aA (a:=((j:Nat):Int)) (b:=1) kq oq oq) ?_ ?_ ?_;apply qr 1;apply qe;refine ab ⟨j+1,?_,?_,(fg kq kq az mE)⟩
 . omega
 . refine ⟨by omega,fun a h=>?_⟩;rcases Nat.lt_succ_iff_lt_or_eq.1 h with h|h
   . exact hb a h
   . subst h;first|exact OL aq|exact NC aq
 iterate 31 kernel_rfl
 apply qf (decide_eq_false hb4);refine aK 2 kq kq ?_;apply ac;apply ac;apply au;apply ab;refine zZ (fun _=>[]) (fun _=>[t.bx]) ?_ ?_;apply zV 1;apply qT;apply iR;apply aR;apply aR;apply iR;apply aR;refine aJ (b:=true) (.inr rfl) kq ?_
 rotate_left
 iterate 19 kernel_rfl
 refine qt (x:=(!((rm Z i).name==t.name))) (congrArg not (beq_eq_false_iff_ne.2 hb3)) ?_ ?_;refine aK 1 kq kq ?_;apply ac;apply au;apply ab;apply zZ (mT [] [33]) id;apply qo;apply qr 1;refine qy (aA (a:=((i:Nat):Int)) (b:=1) kq oq oq) ?_ ?_ ?_;apply qr 1;apply qe;refine ab ⟨i+1,?_,?_,(fg kq kq az mE)⟩
 . omega
 . refine ⟨by omega,fun a h=>?_⟩;rcases Nat.lt_succ_iff_lt_or_eq.1 h with h|h
   . exact ha a h
   . subst h;assumption
 iterate 22 kernel_rfl
 apply qf (decide_eq_false hb2);refine aK 0 kq kq ?_;apply ac;apply ac;apply au;apply ab;refine zZ (fun _=>[]) (fun _=>[t.bx]) ?_ ?_;apply zV 1;apply qT;refine aJ (b:=false) (.inr rfl) kq ?_
 rotate_left
 iterate 16 kernel_rfl
 refine qt (x:=((t.kind) != 3)) (bne_iff_ne.2 hb1) ?_ ?_;apply zV 1;refine qP (pb t (by first|exact hq|exact (sa hs (i:=i) oq).2 j oq)) aH aH aH kq ?_;apply qX 1;apply aR;refine aJ (b:=(ig t)) (.inr rfl) kq ?_
 rotate_left
 iterate 9 kernel_rfl
 all_goals
  first|exact (Em aq).symm|(rw [Pc aq (fun a h=>ha a oq)];done)|(rw [KO (k:=i) aq oq ha aq,Oc (j:=j) oq (R0 aq aq)];rfl)|(rw [KO (k:=i) aq oq ha aq,NE (fun a h=>hb a oq)];rfl)
end Go.Proofs.YtcpklndelobigaaGreatDoor
