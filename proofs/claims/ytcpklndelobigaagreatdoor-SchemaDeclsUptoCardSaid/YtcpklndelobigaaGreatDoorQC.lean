/- A part of the proof: plain lemmas and walks. No condition. -/
import Derived.Test.YtcpklndelobigaaGreatDoorPD
set_option linter.all false
namespace Go.Proofs.YtcpklndelobigaaGreatDoor
open Go.Proofs.YtcpklndelobigaaGreatDoor.Abs
set_option maxRecDepth 20000
set_option maxHeartbeats 4000000
def jn (t:Ty):Bool:=decide (t.kind<=2)
def dH (c:Ct):Bool:=c.has && !jn c.arg
def gR (Z:List Sm) (t:Ty):Bool:=if t.kind=3 then (match Z.findIdx? (fun x=>x.name==t.name) with
 | some i=>!(Z.getD i Sm.zero).ctors.any dH
 | none=>false) else jn t
def SmQ (Z:List Sm):Prop:=Z.length<1000000/\∀ s∈Z,s.ctors.length<1000000/\∀ c∈s.ctors,Vq c.arg
theorem Kz {Z:List Sm} {t:Ty} (h:¬ t.kind=3):gR Z t=jn t:=by rw [gR,if_neg h]
theorem QS {Z:List Sm} {t:Ty} (h:t.kind=3) {k:Nat} (hk:k<Z.length) (ha:∀ i,i<k->¬ ((Z.getD i Sm.zero).name==t.name)=true) (hn:((Z.getD k Sm.zero).name==t.name)=true):gR Z t=!(Z.getD k Sm.zero).ctors.any dH:=by
 have e:=cO (p:=fun x:Sm=>x.name==t.name) Sm.zero hk ha hn;rw [gR,if_pos h];unfold bF at e;split at e
 . rename_i i hi;rw [hi];have:k=i:=by omega
   subst this;rfl
 . omega
theorem RH {Z:List Sm} {t:Ty} (h:t.kind=3) (ha:∀ i,i<Z.length->¬ ((Z.getD i Sm.zero).name==t.name)=true):gR Z t=false:=by
 have e:=cR (p:=fun x:Sm=>x.name==t.name) Sm.zero ha;rw [gR,if_pos h];unfold bF at e;split at e
 . omega
 . rename_i hi;rw [hi]
theorem H4 {Z:List Sm} {t:Ty} (h:t.kind=3) (hi:bF (fun x:Sm=>x.name==t.name) Z >= 0):gR Z t=!(Z.getD (bF (fun x:Sm=>x.name==t.name) Z).toNat Sm.zero).ctors.any dH:=by
 rw [gR,if_pos h];unfold bF at hi ⊢;split
 . rename_i i e;rw [e];simp [e]
 . rename_i e;rw [e] at hi;simp at hi
theorem RI {Z:List Sm} {t:Ty} (h:t.kind=3) (hi:bF (fun x:Sm=>x.name==t.name) Z<0):gR Z t=false:=by
 rw [gR,if_pos h];unfold bF at hi;split at hi
 . omega
 . rename_i e;rw [e]
theorem Mh {α:Type} (p:α->Bool) (l:List α):bF p l<((l.length:Nat):Int)/\-1<=bF p l:=by
 unfold bF;split
 . rename_i i h;obtain ⟨h1,_⟩:=List.findIdx?_eq_some_iff_getElem.1 h;omega
 . omega
theorem tZ {Z:List Sm} (h:SmQ Z) {i:Nat} (hi:i<Z.length):(Z.getD i Sm.zero).ctors.length<1000000/\∀ k,k<(Z.getD i Sm.zero).ctors.length->Vq ((Z.getD i Sm.zero).ctors.getD k Ct.zero).arg:=by
 have:=h.2 _ (aH Z Sm.zero i hi);exact ⟨this.1,fun k hk=>this.2 _ (aH _ _ _ hk)⟩
theorem nt (t:Ty) (hq:Vq t):ae cx 190 [Ty.v t] (.bool (jn t)):=by
 refine fI 10 0 [(ResultVar.tmp 2)] Tryz.func190 kq ?_;refine zZ (fun _=>[(0,Ty.v t)]) (fun _=>[]) ?_ ?_;refine zW 2 (fun _=>[(1,.ptr 0 0)]) (fun _=>[t.bx]) ?_ ?_;apply zV 4;by_cases hb1:(t.kind)<=2;refine zm [5,6] (decide_eq_true hb1) ?_ ?_;apply qr 1;refine qP (hq.p) aG aG aG kq ?_;refine qX 2 ?_ ?_;refine aD (b:=true) (.inr rfl) kq ?_
 . simp [jn, *]
 iterate 3 kernel_rfl
 refine zm [5,6] (decide_eq_false hb1) ?_ ?_;refine qX 4 ?_ ?_;refine aD (b:=false) (.inr rfl) kq ?_
 . simp [jn, *]
 iterate 5 kernel_rfl
theorem qn (t:Ty) (hq:Vq t):ae cx 170 [Ty.v t] (.bool (jn t)):=by
 have hk0:=hq.k;refine fI 22 0 [(ResultVar.tmp 2)] Tryz.func170 kq ?_;refine zZ (fun _=>[(0,Ty.v t)]) (fun _=>[]) ?_ ?_;apply zW 2 (mT [(1,.ptr 0 0)] [0]) (mH [] [t.bx]);apply zV 1;refine qP (hq.r) aG aG aG kq ?_;refine zR 1 (fun _=>[(1,.ptr 0 0),(3,.bool true)]) (fun _=>[t.bx]) ?_ ?_;apply zV 6;by_cases hb1:(t.kind)=0;refine zm [10,11] (beq_iff_eq.2 hb1) ?_ ?_;refine qX 11 ?_ ?_;refine aD (b:=true) (.inr rfl) kq ?_
 rotate_left
 iterate 2 kernel_rfl
 refine zm [10,11] (beq_eq_false_iff_ne.2 hb1) ?_ ?_;apply qr 5;by_cases hb2:(t.kind)=1;refine zm [14,15,16] (beq_iff_eq.2 hb2) ?_ ?_;refine qX 6 ?_ ?_;refine aD (b:=true) (.inr rfl) kq ?_
 rotate_left
 iterate 2 kernel_rfl
 refine zm [14,15,16] (beq_eq_false_iff_ne.2 hb2) ?_ ?_;refine qX 6 ?_ ?_;refine aD (b:=((t.kind)==2)) (.inr rfl) kq ?_;by_cases hb3:(t.kind)=2;refine Eq.trans (beq_iff_eq.2 hb3) ?_
 rotate_left
 refine Eq.trans (beq_eq_false_iff_ne.2 hb3) ?_
 rotate_left
 iterate 9 kernel_rfl
 all_goals
  simp only [jn];first|(rw [decide_eq_true oq];done)|(rw [decide_eq_false oq];done)|(simp [*];done)
theorem KG (x:Sm) (t:Ty) :av cx 188 [Sm.v x,.ptr 0 0] [t.bx] (fun v h=>v=(.bool (x.name==t.name))/\h=[t.bx]):=by
 refine fI 9 1 [(ResultVar.tmp 3)] Tryz.func188 kq ?_;refine zZ (fun _=>[(0,Sm.v x),(1,.ptr 0 0)]) (fun _=>[t.bx]) ?_ ?_;apply zW 2 (mT [(2,.ptr 1 0)] [0]) (mH [] [.box [.str x.name,.imm (x.ctors.map Ct.v)]]);refine zW 6 (fun _=>[(3,.bool (x.name==t.name))]) (fun _=>[t.bx,.box [.str x.name,.imm (x.ctors.map Ct.v)]]) ?_ ?_;refine aJ kq ?_;refine aO (l:=[.bool (x.name==t.name)]) (.inr rfl) kq (by rfl) gp gp ?_ ?_;refine Eq.trans (b:=[t.bx]) kq ?_
 . rfl
 . simp [am.belO,aC,aa.bel,Ty.v]
 iterate 3 kernel_rfl
theorem Vb {p:Prop} (h:p:=by show aa.int _ _=aa.int _ _;first|rw [<- cO (p:=fun x:Sm=>x.name==t.name) Sm.zero (l:=l) (k:=k) oq ha aq]|rw [<- cR (p:=fun x:Sm=>x.name==t.name) Sm.zero (l:=l) (fun i hi=>ha i oq)]):p:=h
theorem nh {p:Prop} (h:p:=by simp [am.belO,aC,aa.bel,Ty.v]):p:=h
theorem Ix (l:List Sm) (t:Ty) (hn:l.length<1000000000):av cx 187 [.imm (l.map Sm.v),.fn (.func 188) [] [.ptr 0 0]] [t.bx] (fun v h=>v=(.int .i64 (bF (fun x:Sm=>x.name==t.name) l))/\h=[t.bx]):=by
 refine fI 19 1 [(ResultVar.tmp 4)] Tryz.func187 kq ?_;refine zZ (fun _=>[(0,.imm (l.map Sm.v)),(1,.fn (.func 188) [] [.ptr 0 0])]) (fun _=>[t.bx]) ?_ ?_;apply zW 1 id id;apply ai;apply zV 1;refine qy (aj (l:=l) (enc:=Sm.v) kq di) ?_ ?_ ?_;apply zR 1 (mU [(7,nI l.length),(8,.int .i64 0)]) id;apply qB 0;refine aT (σ:=Nat) (fun k=>[(0,.imm (l.map Sm.v)),(1,.fn (.func 188) [] [.ptr 0 0]),(7,.int .i64 ((l.length:Nat):Int)),(8,.int .i64 ((k:Nat):Int))]) (fun k=>[t.bx]) (fun k=>k<=l.length/\∀ i,i<k->¬ ((l.getD i Sm.zero).name==t.name)=true) (fun k=>l.length - k) 0 kq (by exact ⟨Nat.zero_le _,fun i h=>absurd h (Nat.not_lt_zero i)⟩) (fg kq kq aA nh) ?_;rintro k ⟨hk,ha⟩;apply zW 1 (mU [(9,.bool (decide (((k:Nat):Int)<((l.length:Nat):Int))))]) id;apply ai;by_cases hb1:((k:Nat):Int)<((l.length:Nat):Int);apply qt (decide_eq_true hb1);apply qK;apply zZ (mT [] [9]) id;apply ai;apply qB 1;apply zW 2 (mU [(5,nI k)]) id;apply zV 3;refine qy ((au (k:=.i64) (l:=l) (enc:=Sm.v) (i:=((k:Nat):Int)) Sm.zero kq di e9 (fun _=>rfl) oq oq).trans (congrArg (fun cs=>some (aa.pimm cs 0,_)) (cr (l.getD k Sm.zero)))) ?_ ?_ ?_;apply qr 1;refine qA (KG (l.getD k Sm.zero) t) nh nh rfl nh nh kq ?_;refine zN (mU [(16,.bool ((l.getD k Sm.zero).name==t.name))]) id ?_ ?_;by_cases hb2:((l.getD k Sm.zero).name==t.name)=true;apply qt (hb2);refine zW 2 (fun _=>[(4,nI k)]) (fun _=>[t.bx]) ?_ ?_;refine aJ kq ?_;apply iR;apply aR;apply aR;apply iR;apply aR;refine aO (l:=[.int .i64 ((k:Nat):Int)]) (.inr rfl) kq Vb gp gp ?_ ?_;refine Eq.trans (b:=[t.bx]) kq ?_
 . rfl
 . simp [am.belO,aC,aa.bel,Ty.v]
 iterate 2 kernel_rfl
 apply qf (Bool.eq_false_iff.2 hb2);refine qk ?_ ?_;refine ag ?_;apply ab;apply zZ (mT [] [5,16]) id;apply qo;refine qy (az (a:=((k:Nat):Int)) (b:=1) kq oq oq) ?_ ?_ ?_;apply qr 1;apply qe;refine ab ⟨k+1,?_,?_,(fg kq kq aA nh)⟩
 . omega
 . refine ⟨by omega,fun i hi=>?_⟩;rcases Nat.lt_succ_iff_lt_or_eq.1 hi with h|h
   . exact ha i h
   . subst h;assumption
 iterate 20 kernel_rfl
 apply qf (decide_eq_false hb1);refine aK 0 kq kq ?_;apply ac;apply ac;refine ao ?_;apply ab;refine zZ (fun _=>[]) id ?_ ?_;refine zW 1 (fun _=>[(4,.int .i64 (-1))]) (fun _=>[t.bx]) ?_ ?_;refine aJ kq ?_;refine aO (l:=[.int .i64 (-1)]) (.inr rfl) kq Vb gp gp ?_ ?_;refine Eq.trans (b:=[t.bx]) kq ?_
 . rfl
 . simp [am.belO,aC,aa.bel,Ty.v]
 iterate 14 kernel_rfl
theorem GR (c:Ct) (hq:Vq c.arg):ae cx 191 [Ct.v c] (.bool (dH c)):=by
 refine fI 11 0 [(ResultVar.tmp 2)] Tryz.func191 kq ?_;refine zZ (fun _=>[(0,Ct.v c)]) (fun _=>[]) ?_ ?_;refine zW 2 (fun _=>[(1,.ptr 0 0)]) (fun _=>[.box [.str c.name,.bool (c.has),.int .i64 (c.arg.kind),.str c.arg.name,.int .i64 (c.arg.n),.imm (c.arg.names.map aa.str),.imm (c.arg.kids.map Ty.enc)]]) ?_ ?_;apply zV 3;by_cases hb1:(c.has)=true;refine zm [4,5] (hb1) ?_ ?_;apply qr 2;refine qP (nt c.arg hq) aG aG aG kq ?_;refine qX 3 ?_ ?_;refine aD (b:=(!(jn c.arg))) (.inr rfl) kq ?_
 . simp [dH, *]
 iterate 3 kernel_rfl
 refine zm [4,5] (Bool.eq_false_iff.2 hb1) ?_ ?_;refine qX 6 ?_ ?_;refine aD (b:=false) (.inr rfl) kq ?_
 . simp [dH, *]
 iterate 5 kernel_rfl
abbrev Re (l:List Ct):List (Nat×aa):=[(0,.imm (l.map Ct.v)),(1,.fn (.func 191) [] [])]
theorem GU (l:List Ct) (hc:∀ k,k<l.length->Vq (l.getD k Ct.zero).arg) (hn:l.length<1000000000):ae cx 228 [.imm (l.map Ct.v),.fn (.func 191) [] []] (.int .i64 (bF dH l)):=by
 refine fI 19 0 [(ResultVar.tmp 4)] Tryz.func228 kq ?_;refine zZ (fun _=>(Re l)) (fun _=>[]) ?_ ?_;apply zW 1 id id;apply ai;apply zV 1;refine qy (aj (l:=l) (enc:=Ct.v) kq gM) ?_ ?_ ?_;apply zR 1 (mU [(7,nI l.length),(8,.int .i64 0)]) id;apply qB 0;refine aT (σ:=Nat) (fun k=>[(0,.imm (l.map Ct.v)),(1,.fn (.func 191) [] []),(7,.int .i64 ((l.length:Nat):Int)),(8,.int .i64 ((k:Nat):Int))]) (fun k=>[]) (fun k=>k<=l.length/\∀ i,i<k->¬ dH (l.getD i Ct.zero)=true) (fun k=>l.length - k) 0 kq zq (fg kq kq aA mb) ?_;rintro k ⟨hk,ha⟩;apply zW 1 (mU [(9,.bool (decide (((k:Nat):Int)<((l.length:Nat):Int))))]) id;apply ai;by_cases hb1:((k:Nat):Int)<((l.length:Nat):Int);apply qt (decide_eq_true hb1);apply qK;apply zZ (mT [] [9]) id;apply ai;apply qB 1;apply zW 2 (mU [(5,nI k)]) id;apply zV 3;refine qy ((au (k:=.i64) (l:=l) (enc:=Ct.v) (i:=((k:Nat):Int)) Ct.zero kq gM mn (fun _=>rfl) oq oq).trans (congrArg (fun cs=>some (aa.pimm cs 0,_)) (fW (l.getD k Ct.zero)))) ?_ ?_ ?_;apply qr 1;refine qP (GR _ (hc k oq)) aG aG aG kq ?_;refine zN (fun _=>[(0,.imm (l.map Ct.v)),(1,.fn (.func 191) [] []),(5,nI k),(7,nI l.length),(8,nI k),(16,.bool (dH (l.getD k Ct.zero)))]) (fun _=>[]) ?_ ?_;by_cases hb2:(dH (l.getD k Ct.zero))=true;apply qt (hb2);apply zV 2;refine qT ?_ ?_;apply iR;apply aR;apply aR;apply iR;apply aR;refine dm (n:=((k:Nat):Int)) (.inr rfl) kq ?_
 rotate_left
 iterate 3 kernel_rfl
 apply qf (Bool.eq_false_iff.2 hb2);refine qk ?_ ?_;refine ag ?_;apply ab;apply zZ (mT [] [5,16]) id;apply qo;refine qy (az (a:=((k:Nat):Int)) (b:=1) kq oq oq) ?_ ?_ ?_;apply qr 1;apply qe;refine ab ⟨k+1,?_,?_,(fg kq kq aA mb)⟩
 . omega
 . refine ⟨by omega,fun i hi=>?_⟩;rcases Nat.lt_succ_iff_lt_or_eq.1 hi with h|h
   . exact ha i h
   . subst h;assumption
 iterate 20 kernel_rfl
 apply qf (decide_eq_false hb1);refine aK 0 kq kq ?_;apply ac;apply ac;refine ao ?_;apply ab;refine zZ (fun _=>[]) (fun _=>[]) ?_ ?_;apply zV 1;refine qT ?_ ?_;refine dm (n:=(-1)) (.inr rfl) kq ?_
 rotate_left
 iterate 15 kernel_rfl
 all_goals
  first|exact cO (p:=dH) Ct.zero (l:=l) (k:=k) oq ha aq|exact cR (p:=dH) Ct.zero (l:=l) (fun i hi=>ha i oq)
theorem Fg (l:List Ct) (hc:∀ k,k<l.length->Vq (l.getD k Ct.zero).arg) (hn:l.length<1000000000):ae cx 175 [.imm (l.map Ct.v),.fn (.func 191) [] []] (.bool (l.any dH)):=by
 refine fI 9 0 [(ResultVar.tmp 4)] Tryz.func175 kq ?_;refine zZ (fun _=>(Re l)) (fun _=>[]) ?_ ?_;refine zW 1 (fun _=>(Re l)) (fun _=>[]) ?_ ?_;apply zV 2;refine qP (GU l hc oq) aG aG aG kq ?_;refine qX 2 ?_ ?_;refine aD (b:=(decide ((bF dH l) >= 0))) (.inr rfl) kq ?_
 . exact mh dH l
 iterate 4 kernel_rfl
def ctB (c:Ct):Bool:=bif c.has then clB c.arg else c.arg.beq (Ty.mk 0 [] 0 [] [])
def GB (c:Ct) (u:Bool):Bool:=(u || (c.name==[73,110,116] || (c.name==[84,101,120,116] || c.name==[66,111,111,108]))) && ctB c
theorem OX {Z:List Sm} {t:Ty} (h:t.kind=3) {k:Nat} (hk:k<Z.length) (ha:∀ i,i<k->¬ (Z.getD i Sm.zero).name=t.name) (hn:(Z.getD k Sm.zero).name=t.name):gR Z t=!(Z.getD k Sm.zero).ctors.any dH :=
 QS h hk (fun i hi=>by have:=ha i hi;simpa using this) (by simpa using hn)
theorem UW {Z:List Sm} {t:Ty} (h:t.kind=3) (ha:∀ i,i<Z.length->¬ (Z.getD i Sm.zero).name=t.name):gR Z t=false:=RH h (fun i hi=>by have:=ha i hi;simpa using this)
theorem Ux {l:List Ct} {j:Nat} (hj:j<l.length) (h:dH (l.getD j Ct.zero)=true):l.any dH=true:=List.any_eq_true.2 ⟨_,aH l Ct.zero j hj,h⟩
theorem TF {l:List Ct} (h:∀ j,j<l.length->¬ dH (l.getD j Ct.zero)=true):l.any dH=false:=by
 rw [List.any_eq_false];intro x hx;obtain ⟨i,hi,rfl⟩:=List.getElem_of_mem hx;have:=h i hi
 rwa [List.getD_eq_getElem?_getD,List.getElem?_eq_getElem hi] at this
theorem VB {c:Ct} (h:¬ c.has=true):¬ dH c=true:=by rw [dH,Bool.eq_false_iff.2 h];simp
theorem Uj {c:Ct} (h:jn c.arg=true):¬ dH c=true:=by rw [dH,h];simp
theorem Xa {c:Ct} (h:c.has=true) (h2:¬ jn c.arg=true):dH c=true:=by rw [dH,h,Bool.eq_false_iff.2 h2];rfl
theorem W0 {t:Ty} (h:t.kind=3):jn t=false:=by rw [jn,h];rfl
abbrev nf (c:Ct):List am:=[.box [.str c.name,.bool (c.has),.int .i64 (c.arg.kind),.str c.arg.name,.int .i64 (c.arg.n),.imm (c.arg.names.map aa.str),.imm (c.arg.kids.map Ty.enc)]]
abbrev HG (c:Ct):List aa:=[.agg [.int .i64 (c.arg.kind),.str c.arg.name,.int .i64 (c.arg.n),.imm (c.arg.names.map aa.str),.imm (c.arg.kids.map Ty.enc)],.agg fQ]
abbrev CK :=(Ty.mk 0 [] 0 [] [])
theorem HU {p:Prop} (h:p:=by first|omega|assumption):p:=h
abbrev Kr (c:Ct):=c.arg.beq (Ty.mk 0 [] 0 [] [])
theorem pM (c:Ct) (hp:Vp c.arg) (hs:c.arg.sz<100000000):ae cx 71 [Ct.v c] (.bool (ctB c)):=by
 refine fI 12 0 [(ResultVar.tmp 2)] Tryz.func71 kq ?_;refine zZ (fun _=>[(0,Ct.v c)]) (fun _=>[]) ?_ ?_;apply zW 2 (mT [(1,.ptr 0 0)] [0]) (mH [] (nf c));apply ai;refine zW 2 (fun _=>[(1,.ptr 0 0),(4,.bool (c.has))]) (fun _=>(nf c)) ?_ ?_;by_cases hb1:(c.has)=true;apply qt (hb1);apply zV 2;refine qP (xr c.arg hs hp) aG aG aG kq ?_;refine qX 1 ?_ ?_;apply aR;refine aD (b:=(clB c.arg)) (.inr rfl) kq ?_
 . simp [ctB, *]
 iterate 3 kernel_rfl
 apply qf (Bool.eq_false_iff.2 hb1);apply qK;refine zZ (fun _=>[(1,.ptr 0 0)]) (fun _=>(nf c)) ?_ ?_;apply zV 3;refine l1 (args:=(HG c)) kq kq kq kq (jI c.arg CK HU) aG aG aG ?_;refine qX 1 ?_ ?_;refine aD (b:=(Kr c)) (.inr rfl) kq ?_
 . simp [ctB, *]
 iterate 9 kernel_rfl
abbrev Qs (c:Ct):List (Nat×aa):=[(3,.bool true),(5,.bool (c.arg.beq CK))]
abbrev QW (c:Ct):List (Nat×aa):=[(3,.bool true),(4,.bool (clB c.arg))]
abbrev Rh :List (Nat×aa):=[(1,.ptr 0 0),(3,.bool true)]
theorem kK (c:Ct) (u:Bool) (hu:ae cx 87 [.str c.name] (.bool u)) (hp:Vp c.arg) (hs:c.arg.sz<100000000):ae cx 88 [Ct.v c] (.bool (GB c u)):=by
 refine fI 39 0 [(ResultVar.tmp 2)] Tryz.func88 kq ?_;refine zZ (fun _=>[(0,Ct.v c)]) (fun _=>[]) ?_ ?_;apply zW 2 (mT [(1,.ptr 0 0)] [0]) (mH [] (nf c));apply zV 2;refine qc [.str c.name] (hu) ?_ ?_;apply zR 1 (mU [(3,.bool (u))]) id;apply ai;apply zV 4;by_cases hb1:c.name=[73,110,116];refine zm [11,12] (beq_iff_eq.2 hb1) ?_ ?_;apply zR 9 (mU [(21,.bool true)]) id;refine ga kq kq ?_;apply qo;refine qR 1 Rh (nf c) ?_ ?_;apply ai;apply zW 2 (mU [(23,.bool (c.has))]) id;by_cases hb2:(c.has)=true;apply qt (hb2);apply zV 2;refine qP (iq c.arg hs hp) aG aG aG kq ?_;refine zR 1 (fun _=>(QW c)) (fun _=>(nf c)) ?_ ?_;apply zV 5;refine qT ?_ ?_;apply aR;refine aD (b:=(clB c.arg)) (.inr rfl) kq ?_
 rotate_left
 iterate 5 kernel_rfl
 apply qf (Bool.eq_false_iff.2 hb2);apply qK;apply zZ (mT [] [23]) id;apply zV 3;refine l1 (args:=(HG c)) kq kq kq kq (gN c.arg CK HU) aG aG aG ?_;refine zR 1 (fun _=>(Qs c)) (fun _=>(nf c)) ?_ ?_;apply zV 5;refine qT ?_ ?_;refine aD (b:=(Kr c)) (.inr rfl) kq ?_
 rotate_left
 iterate 13 kernel_rfl
 refine zm [11,12] (beq_eq_false_iff_ne.2 hb1) ?_ ?_;apply qr 5;by_cases hb3:c.name=[84,101,120,116];refine zm [15,16,17] (beq_iff_eq.2 hb3) ?_ ?_;apply zR 4 (mU [(21,.bool true)]) id;refine ga kq kq ?_;apply qo;refine qR 1 Rh (nf c) ?_ ?_;apply ai;apply zW 2 (mU [(23,.bool (c.has))]) id;by_cases hb4:(c.has)=true;apply qt (hb4);apply zV 2;refine qP (iq c.arg hs hp) aG aG aG kq ?_;refine zR 1 (fun _=>(QW c)) (fun _=>(nf c)) ?_ ?_;apply zV 5;refine qT ?_ ?_;apply aR;refine aD (b:=(clB c.arg)) (.inr rfl) kq ?_
 rotate_left
 iterate 5 kernel_rfl
 apply qf (Bool.eq_false_iff.2 hb4);apply qK;apply zZ (mT [] [23]) id;apply zV 3;refine l1 (args:=(HG c)) kq kq kq kq (gN c.arg CK HU) aG aG aG ?_;refine zR 1 (fun _=>(Qs c)) (fun _=>(nf c)) ?_ ?_;apply zV 5;refine qT ?_ ?_;refine aD (b:=(Kr c)) (.inr rfl) kq ?_
 rotate_left
 iterate 13 kernel_rfl
 refine zm [15,16,17] (beq_eq_false_iff_ne.2 hb3) ?_ ?_;apply zR 4 (mU [(21,.bool (c.name==[66,111,111,108]))]) id;by_cases hb5:c.name=[66,111,111,108];apply qt (beq_iff_eq.2 hb5);apply qo;refine qR 1 Rh (nf c) ?_ ?_;apply ai;apply zW 2 (mU [(23,.bool (c.has))]) id;by_cases hb6:(c.has)=true;apply qt (hb6);apply zV 2;refine qP (iq c.arg hs hp) aG aG aG kq ?_;refine zR 1 (fun _=>(QW c)) (fun _=>(nf c)) ?_ ?_;apply zV 5;refine qT ?_ ?_;apply aR;refine aD (b:=(clB c.arg)) (.inr rfl) kq ?_
 rotate_left
 iterate 5 kernel_rfl
 apply qf (Bool.eq_false_iff.2 hb6);apply qK;apply zZ (mT [] [23]) id;apply zV 3;refine l1 (args:=(HG c)) kq kq kq kq (gN c.arg CK HU) aG aG aG ?_;refine zR 1 (fun _=>(Qs c)) (fun _=>(nf c)) ?_ ?_;apply zV 5;refine qT ?_ ?_;refine aD (b:=(Kr c)) (.inr rfl) kq ?_
 rotate_left
 iterate 12 kernel_rfl
 apply qf (beq_eq_false_iff_ne.2 hb5);apply qK;apply zZ (mT [] [21]) id;apply ai;apply zW 2 (mU [(23,.bool (c.has))]) id;by_cases hb7:(c.has)=true;apply qt (hb7);apply zV 2;refine qP (iq c.arg hs hp) aG aG aG kq ?_;refine zR 1 (fun _=>[(3,.bool (u)),(4,.bool (clB c.arg))]) (fun _=>(nf c)) ?_ ?_;apply zV 2;by_cases hb8:(u)=true;refine zm [3,27,28] (hb8) ?_ ?_;refine qX 3 ?_ ?_;apply aR;refine aD (b:=(clB c.arg)) (.inr rfl) kq ?_
 rotate_left
 iterate 2 kernel_rfl
 refine zm [3,27,28] (Bool.eq_false_iff.2 hb8) ?_ ?_;refine qX 3 ?_ ?_;apply aR;refine aD (b:=false) (.inr rfl) kq ?_
 rotate_left
 iterate 6 kernel_rfl
 apply qf (Bool.eq_false_iff.2 hb7);apply qK;apply zZ (mT [] [23]) id;apply zV 3;refine l1 (args:=(HG c)) kq kq kq kq (gN c.arg CK HU) aG aG aG ?_;refine zR 1 (fun _=>[(3,.bool (u)),(5,.bool (c.arg.beq CK))]) (fun _=>(nf c)) ?_ ?_;apply zV 2;by_cases hb9:(u)=true;refine zm [3,35,36] (hb9) ?_ ?_;refine qX 3 ?_ ?_;refine aD (b:=(Kr c)) (.inr rfl) kq ?_
 rotate_left
 iterate 2 kernel_rfl
 refine zm [3,35,36] (Bool.eq_false_iff.2 hb9) ?_ ?_;refine qX 3 ?_ ?_;refine aD (b:=false) (.inr rfl) kq ?_
 rotate_left
 iterate 24 kernel_rfl
 all_goals
  simp [GB,ctB, *]
abbrev CB (Z:List Sm):Nat×aa:=(0,.imm (Z.map Sm.v))
theorem s8 (Z:List Sm) (t:Ty) (hq:Vq t) (hs:SmQ Z):ae cx 136 [.imm (cU Z),Ty.v t] (.bool (gR Z t)):=by
 have hix:=Mh (fun x:Sm=>x.name==t.name) Z;have hn:=hs.1;refine fI 30 0 [(ResultVar.tmp 4)] Tryz.func136 kq ?_;refine zZ (fun _=>[(CB Z),(1,Ty.v t)]) (fun _=>[]) ?_ ?_;apply zW 2 (mT [(3,.ptr 0 0)] [1]) (mH [] [t.bx]);apply zV 2;refine qA (Ix Z t oq) nh nh rfl nh nh kq ?_;refine zR 1 (mU [(5,.int .i64 (bF (fun x:Sm=>x.name==t.name) Z))]) id ?_ ?_;apply ai;apply zV 4;by_cases hb1:(t.kind)=3;refine zm [11,12] (x:=((t.kind) != 3)) (bne_eq_false_iff_eq.2 hb1) ?_ ?_;apply qr 1;refine qP (hq.p) aG aG aG kq ?_;refine zR 6 (fun _=>[(CB Z),(3,.ptr 0 0),(5,.int .i64 (bF (fun x:Sm=>x.name==t.name) Z)),(20,.bool (decide ((bF (fun x:Sm=>x.name==t.name) Z)<0)))]) (fun _=>[t.bx]) ?_ ?_;by_cases hb2:(bF (fun x:Sm=>x.name==t.name) Z)<0;apply qt (decide_eq_true hb2);apply zV 1;refine qP (nt t hq) aG aG aG kq ?_;refine qX 1 ?_ ?_;apply aR;refine aD (b:=(jn t)) (.inr rfl) kq ?_
 rotate_left
 iterate 3 kernel_rfl
 apply qf (decide_eq_false hb2);apply qK;refine zZ (fun _=>[(CB Z),(5,.int .i64 (bF (fun x:Sm=>x.name==t.name) Z))]) (fun _=>[t.bx]) ?_ ?_;apply zV 2;refine qy ((au (k:=.i64) (l:=Z) (enc:=Sm.v) (i:=(bF (fun x:Sm=>x.name==t.name) Z)) Sm.zero kq di e9 (fun _=>rfl) oq oq).trans (congrArg (fun cs=>some (aa.pimm cs 0,_)) (cr (Z.getD (((bF (fun x:Sm=>x.name==t.name) Z)).toNat) Sm.zero)))) ?_ ?_ ?_;apply qr 2;refine qP (Fg _ (tZ hs (i:=(bF (fun x:Sm=>x.name==t.name) Z).toNat) oq).2 (Nat.lt_trans (tZ hs (i:=(bF (fun x:Sm=>x.name==t.name) Z).toNat) oq).1 dq)) aG aG aG kq ?_;refine qX 2 ?_ ?_;refine aD (b:=(!(((Z.getD (((bF (fun x:Sm=>x.name==t.name) Z)).toNat) Sm.zero).ctors).any dH))) (.inr rfl) kq ?_
 rotate_left
 iterate 11 kernel_rfl
 refine zm [11,12] (x:=((t.kind) != 3)) (bne_iff_ne.2 hb1) ?_ ?_;refine zR 8 (fun _=>[(CB Z),(3,.ptr 0 0),(5,.int .i64 (bF (fun x:Sm=>x.name==t.name) Z)),(20,.bool true)]) (fun _=>[t.bx]) ?_ ?_;refine ga kq kq ?_;apply zV 1;refine qP (nt t hq) aG aG aG kq ?_;refine qX 1 ?_ ?_;apply aR;refine aD (b:=(jn t)) (.inr rfl) kq ?_
 rotate_left
 iterate 10 kernel_rfl
 all_goals
  first|exact (Kz aq).symm|(rw [RI aq aq,W0 aq];done)|(rw [H4 aq oq];simp [*];done)|(rw [H4 aq oq];done)
abbrev yE (Z:List Sm)(i:Nat)(j:Nat):=((Z.getD i Sm.zero).ctors.getD j Ct.zero)
abbrev tT (Z:List Sm)(i:Nat):=(Z.getD i Sm.zero)
theorem Gy (Z:List Sm) (t:Ty) (hq:Vq t) (hs:SmQ Z):ae cx 92 [.imm (cU Z),Ty.v t] (.bool (gR Z t)):=by
 have hn:=hs.1;refine fI 67 0 [(ResultVar.tmp 4)] Tryz.func92 kq ?_;refine zZ (fun _=>[(CB Z),(1,Ty.v t)]) (fun _=>[]) ?_ ?_;apply zW 2 (mT [(3,.ptr 0 0)] [1]) (mH [] [t.bx]);apply zV 1;refine qP (hq.r) aG aG aG kq ?_;apply zR 1 (mU [(5,.bool true)]) id;apply ai;apply zW 7 (mT [(17,.bool ((t.kind) != 3))] [5]) id;by_cases hb1:(t.kind)=3;refine qf (x:=((t.kind) != 3)) (bne_eq_false_iff_eq.2 hb1) ?_ ?_;apply qK;apply zZ (mT [] [17]) id;apply ai;apply zW 1 (mU [(6,.int .i64 0)]) id;apply qB 0;refine aT (σ:=Nat) (fun i=>[(CB Z),(3,.ptr 0 0),(6,nI i)]) (fun i=>[t.bx]) (fun i=>i<=Z.length/\∀ a,a<i->¬ (Z.getD a Sm.zero).name=t.name) (fun i=>Z.length - i) 0 kq (by exact ⟨Nat.zero_le _,fun a h=>absurd h (Nat.not_lt_zero a)⟩) (fg kq kq aA nh) ?_;rintro i ⟨hi,ha⟩;apply ai;apply zV 2;refine qy (aj (l:=Z) (enc:=Sm.v) kq di) ?_ ?_ ?_;apply zR 1 (mU [(23,.bool (decide (((i:Nat):Int)<((Z.length:Nat):Int))))]) id;by_cases hb2:((i:Nat):Int)<((Z.length:Nat):Int);apply qt (decide_eq_true hb2);apply qK;apply zZ (mT [] [23]) id;apply ai;apply qB 1;apply ai;apply ai;refine zD cxM kq ax ?_;apply qu 2;refine qd ((au (k:=.i64) (l:=Z) (enc:=Sm.v) (i:=((i:Nat):Int)) Sm.zero kq di e9 (fun _=>rfl) oq oq).trans (congrArg (fun cs=>some (aa.pimm cs 0,_)) (cr (tT Z i)))) ?_ ?_ ?_ ?_;apply qu 5;refine bY kq ⟨kq,?_⟩;refine zE (mU [(33,.bool (!((tT Z i).name==t.name)))]) id ?_ ?_;by_cases hb3:(Z.getD i Sm.zero).name=t.name;refine qf (x:=(!((tT Z i).name==t.name))) (congrArg not (beq_iff_eq.2 hb3)) ?_ ?_;apply qK;apply zZ (mT [] [3,33]) id;apply ai;apply zW 1 (mU [(7,.int .i64 0)]) id;apply qB 2;refine aT (σ:=Nat) (fun j=>[(CB Z),(6,nI i),(7,nI j)]) (fun j=>[t.bx]) (fun j=>j<=(Z.getD i Sm.zero).ctors.length/\∀ a,a<j->¬ dH ((Z.getD i Sm.zero).ctors.getD a Ct.zero)=true) (fun j=>(Z.getD i Sm.zero).ctors.length - j) 0 kq (by exact ⟨Nat.zero_le _,fun a h=>absurd h (Nat.not_lt_zero a)⟩) (fg kq kq aA nh) ?_;rintro j ⟨hj,hb⟩;have hcl:=(tZ hs (i:=i) oq).1;apply ai;apply zV 3;refine qy ((au (k:=.i64) (l:=Z) (enc:=Sm.v) (i:=((i:Nat):Int)) Sm.zero kq di e9 (fun _=>rfl) oq oq).trans (congrArg (fun cs=>some (aa.pimm cs 0,_)) (cr (tT Z i)))) ?_ ?_ ?_;apply qr 2;refine qy (aj (l:=(tT Z i).ctors) (enc:=Ct.v) kq gM) ?_ ?_ ?_;apply zR 1 (mU [(41,.bool (decide (((j:Nat):Int)<(((tT Z i).ctors.length:Nat):Int))))]) id;by_cases hb4:((j:Nat):Int)<(((Z.getD i Sm.zero).ctors.length:Nat):Int);apply qt (decide_eq_true hb4);apply qK;apply zZ (mT [] [41]) id;apply ai;apply qB 3;apply zV 2;refine qy ((au (k:=.i64) (l:=Z) (enc:=Sm.v) (i:=((i:Nat):Int)) Sm.zero kq di e9 (fun _=>rfl) oq oq).trans (congrArg (fun cs=>some (aa.pimm cs 0,_)) (cr (tT Z i)))) ?_ ?_ ?_;apply qr 3;refine qy ((au (k:=.i64) (l:=(tT Z i).ctors) (enc:=Ct.v) (i:=((j:Nat):Int)) Ct.zero kq gM mn (fun _=>rfl) oq oq).trans (congrArg (fun cs=>some (aa.pimm cs 0,_)) (fW (yE Z i j)))) ?_ ?_ ?_;apply qr 2;refine qP (qn ((yE Z i j).arg) (by first|exact hq|exact (tZ hs (i:=i) oq).2 j oq)) aG aG aG kq ?_;apply zR 1 (mU [(8,.bool (jn ((yE Z i j).arg)))]) id;apply zV 2;refine qy ((au (k:=.i64) (l:=Z) (enc:=Sm.v) (i:=((i:Nat):Int)) Sm.zero kq di e9 (fun _=>rfl) oq oq).trans (congrArg (fun cs=>some (aa.pimm cs 0,_)) (cr (tT Z i)))) ?_ ?_ ?_;apply qr 3;refine qy ((au (k:=.i64) (l:=(tT Z i).ctors) (enc:=Ct.v) (i:=((j:Nat):Int)) Ct.zero kq gM mn (fun _=>rfl) oq oq).trans (congrArg (fun cs=>some (aa.pimm cs 0,_)) (fW (yE Z i j)))) ?_ ?_ ?_;apply qr 3;by_cases hb5:(((Z.getD i Sm.zero).ctors.getD j Ct.zero).has)=true;refine zm [62,63] (hb5) ?_ ?_;apply zR 3 (mT [(64,.bool (jn ((yE Z i j).arg))),(65,.bool (!(jn ((yE Z i j).arg)))),(66,.bool (!(jn ((yE Z i j).arg))))] [8]) id;by_cases hb6:(jn (((Z.getD i Sm.zero).ctors.getD j Ct.zero).arg))=true;refine qf (x:=(!(jn ((yE Z i j).arg)))) (congrArg not (hb6)) ?_ ?_;refine qk ?_ ?_;refine ag ?_;apply ab;apply zZ (mT [] [66]) id;apply qo;apply qr 1;refine qy (az (a:=((j:Nat):Int)) (b:=1) kq oq oq) ?_ ?_ ?_;apply qr 1;apply qe;refine ab ⟨j+1,?_,?_,(fg kq kq aA nh)⟩
 . omega
 . refine ⟨by omega,fun a h=>?_⟩;rcases Nat.lt_succ_iff_lt_or_eq.1 h with h|h
   . exact hb a h
   . subst h;first|exact VB aq|exact Uj aq
 iterate 9 kernel_rfl
 refine qt (x:=(!(jn ((yE Z i j).arg)))) (congrArg not (Bool.eq_false_iff.2 hb6)) ?_ ?_;apply zV 1;refine qT ?_ ?_;apply iR;apply aR;apply aR;apply iR;apply aR;apply iR;apply aR;apply aR;apply iR;apply aR;refine aD (b:=false) (.inr rfl) kq ?_
 rotate_left
 iterate 5 kernel_rfl
 refine zm [62,63] (Bool.eq_false_iff.2 hb5) ?_ ?_;apply zR 3 (mT [(64,.tup []),(65,.tup []),(66,.bool false)] [8]) id;refine iu kq kq ?_;refine qk ?_ ?_;refine ag ?_;apply ab;apply zZ (mT [] [66]) id;apply qo;apply qr 1;refine qy (az (a:=((j:Nat):Int)) (b:=1) kq oq oq) ?_ ?_ ?_;apply qr 1;apply qe;refine ab ⟨j+1,?_,?_,(fg kq kq aA nh)⟩
 . omega
 . refine ⟨by omega,fun a h=>?_⟩;rcases Nat.lt_succ_iff_lt_or_eq.1 h with h|h
   . exact hb a h
   . subst h;first|exact VB aq|exact Uj aq
 iterate 31 kernel_rfl
 apply qf (decide_eq_false hb4);refine aK 2 kq kq ?_;apply ac;apply ac;refine ao ?_;apply ab;refine zZ (fun _=>[]) (fun _=>[t.bx]) ?_ ?_;apply zV 1;refine qT ?_ ?_;apply iR;apply aR;apply aR;apply iR;apply aR;refine aD (b:=true) (.inr rfl) kq ?_
 rotate_left
 iterate 19 kernel_rfl
 refine qt (x:=(!((tT Z i).name==t.name))) (congrArg not (beq_eq_false_iff_ne.2 hb3)) ?_ ?_;refine aK 1 kq kq ?_;apply ac;refine ao ?_;apply ab;apply zZ (mT [] [33]) id;apply qo;apply qr 1;refine qy (az (a:=((i:Nat):Int)) (b:=1) kq oq oq) ?_ ?_ ?_;apply qr 1;apply qe;refine ab ⟨i+1,?_,?_,(fg kq kq aA nh)⟩
 . omega
 . refine ⟨by omega,fun a h=>?_⟩;rcases Nat.lt_succ_iff_lt_or_eq.1 h with h|h
   . exact ha a h
   . subst h;assumption
 iterate 22 kernel_rfl
 apply qf (decide_eq_false hb2);refine aK 0 kq kq ?_;apply ac;apply ac;refine ao ?_;apply ab;refine zZ (fun _=>[]) (fun _=>[t.bx]) ?_ ?_;apply zV 1;refine qT ?_ ?_;refine aD (b:=false) (.inr rfl) kq ?_
 rotate_left
 iterate 16 kernel_rfl
 refine qt (x:=((t.kind) != 3)) (bne_iff_ne.2 hb1) ?_ ?_;apply zV 1;refine qP (qn t (by first|exact hq|exact (tZ hs (i:=i) oq).2 j oq)) aG aG aG kq ?_;refine qX 1 ?_ ?_;apply aR;refine aD (b:=(jn t)) (.inr rfl) kq ?_
 rotate_left
 iterate 9 kernel_rfl
 all_goals
  first|exact (Kz aq).symm|(rw [UW aq (fun a h=>ha a oq)];done)|(rw [OX (k:=i) aq oq ha aq,Ux (j:=j) oq (Xa aq aq)];rfl)|(rw [OX (k:=i) aq oq ha aq,TF (fun a h=>hb a oq)];rfl)
end Go.Proofs.YtcpklndelobigaaGreatDoor
