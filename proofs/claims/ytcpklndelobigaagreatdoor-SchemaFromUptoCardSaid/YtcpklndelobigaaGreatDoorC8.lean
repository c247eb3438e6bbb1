/- A part of the proof: plain lemmas and walks. No condition. -/
import Derived.Test.YtcpklndelobigaaGreatDoorC7
set_option linter.all false
namespace Go.Proofs.YtcpklndelobigaaGreatDoor
open Go.Proofs.YtcpklndelobigaaGreatDoor.Abs
set_option maxRecDepth 20000
set_option maxHeartbeats 4000000
def EN (ev:Operand->aa):Op->Option (BinOp×TypeId×aa×aa)
 | .binOp op t x y _=>some (op,t,ev x,ev y)
 | _=>none
section
variable {P:Program} {ev:Operand->aa} {op:Op} {h:ae}
theorem zx {b:BinOp} {t:TypeId} {x y:aa} (hv:EN ev op=some (b,t,x,y)):aop P h ev op=dp h (tY P b t x y):=by
 unfold EN at hv;split at hv <;> simp at hv;obtain ⟨rfl,rfl,rfl,rfl⟩:=hv;rfl
theorem KV {t:TypeId} {xs ys:List aa} {q:Bool} (hv:EN ev op=some (.neq,t,.agg xs,.agg ys)) (hq:kV P t (.agg xs) (.agg ys)=some q):aop P h ev op=some (.bool !q,h):=by
 rw [zx hv];simp only [tY,hq];rfl
end
theorem Fc (a b:Rf):kV cx.P 55 a.v b.v=some (a.beq b):=by
 have e:kV cx.P 55 a.v b.v=(match some (a.col==b.col) with
  | some true=>(match some (a.tab==b.tab) with
   | some true=>some true
   | some false=>some false
   | none=>none)
  | some false=>some false
  | none=>none):=by kernel_rfl
 rw [e,Rf.beq];cases a.col==b.col <;> cases a.tab==b.tab <;> rfl
noncomputable def c41:Code:=aF Tryz.f41
abbrev uB (a:Tb)(b:Tb):List ax:=[.box [.str a.name,.imm (a.cols.map Co.v),.imm (a.key.map aa.str),.imm (a.refs.map Rf.v),.int .i64 (a.chk.kind),.str a.chk.name,.int .i64 (a.chk.n),.str a.chk.s,.imm (a.chk.names.map aa.str),.imm (a.chk.binds.map aa.str),.imm (a.chk.kids.map Ex.enc),.int .i64 (a.chk.pos),.int .i64 (a.chk.fin)],.box [.str b.name,.imm (b.cols.map Co.v),.imm (b.key.map aa.str),.imm (b.refs.map Rf.v),.int .i64 (b.chk.kind),.str b.chk.name,.int .i64 (b.chk.n),.str b.chk.s,.imm (b.chk.names.map aa.str),.imm (b.chk.binds.map aa.str),.imm (b.chk.kids.map Ex.enc),.int .i64 (b.chk.pos),.int .i64 (b.chk.fin)]]
abbrev mD (a:Tb)(k:Nat):=(a.cols.getD k Co.zero)
abbrev mJ (b:Tb)(k:Nat):=(b.cols.getD k Co.zero)
abbrev Px (a:Tb)(k:Nat):List aa:=[.str (mD a k).name,.int .i64 ((mD a k).type.kind),.str (mD a k).type.name,.int .i64 ((mD a k).type.n),.imm ((mD a k).type.names.map aa.str),.imm ((mD a k).type.kids.map Ty.enc)]
abbrev Py (b:Tb)(k:Nat):List aa:=[.str (mJ b k).name,.int .i64 ((mJ b k).type.kind),.str (mJ b k).type.name,.int .i64 ((mJ b k).type.n),.imm ((mJ b k).type.names.map aa.str),.imm ((mJ b k).type.kids.map Ty.enc)]
abbrev I0 :List (Nat×aa):=[(2,.ptr 0 0),(3,.ptr 1 0),(50,.bool true)]
abbrev GB (a:Tb)(k:Nat)(b:Tb):=(((mD a k).type).beq ((mJ b k).type))
abbrev Mw (a:Tb)(b:Tb):=(((a.refs.length:Nat):Int) != ((b.refs.length:Nat):Int))
abbrev Lh (a:Tb)(q:Nat)(b:Tb):=(!(Rf.beq (a.refs.getD q Rf.zero) (b.refs.getD q Rf.zero)))
theorem jO {p:Prop} (h:p:=by first|omega|assumption|exact hz2 k oq):p:=h
theorem vF {p:Prop} (h:p:=by simp [Ty.v,Ex.v,Ct.v,Co.v,Rf.v,Sm.v,Tb.v]):p:=h
theorem w7 (a b:Tb) (hs:a.sm):af cx 41 [Tb.v a,Tb.v b] (.bool (a.beq b)):=by
 have hz1:=hs.1;have hz2:∀ i,i<a.cols.length->(a.cols.getD i Co.zero).type.sz<100000000:=fun i h=>hs.2.1 _ (bF _ _ _ h)
 have hz3:=hs.2.2.1;have hz4:=hs.2.2.2.1;have hz5:=hs.2.2.2.2;refine am (cx:=cx) 106 0 [(ResultVar.tmp 4)] Tryz.func41 rfl rfl rfl rfl rfl zq ?_;show wpA cx 106 0 (at_ c41 []) _ _ _;refine zZ (fun _=>[(0,Tb.v a),(1,Tb.v b)]) (fun _=>[]) ?_ ?_;apply zW 3 (mT [(2,.ptr 0 0),(3,.ptr 1 0)] [0,1]) (mH [] (uB a b));apply zV 4;refine qP (dv a.key b.key jO) vF vF vF kq ?_;apply zR 1 (mU [(5,.bool (a.key==b.key))]) id;apply zV 4;refine qP (Am a.chk b.chk jO) vF vF vF kq ?_;apply zR 1 (mU [(6,.bool (a.chk.beq b.chk))]) id;apply ao;apply zV 3;by_cases hb1:(a.key==b.key)=true;refine zm [21,22] (x:=(!(a.key==b.key))) (congrArg not (hb1)) ?_ ?_;apply qr 4;by_cases hb2:(a.chk.beq b.chk)=true;refine zm [24,25,26] (x:=(!(a.chk.beq b.chk))) (congrArg not (hb2)) ?_ ?_;apply qr 7;by_cases hb3:a.name=b.name;refine zm [31,32,33] (x:=(!(a.name==b.name))) (congrArg not (beq_iff_eq.2 hb3)) ?_ ?_;apply qr 2;refine qy (aw (l:=a.cols) (enc:=Co.v) kq eL) ?_ ?_ ?_;apply qr 2;refine qy (aw (l:=b.cols) (enc:=Co.v) kq eL) ?_ ?_ ?_;apply qr 3;by_cases hb4:((a.cols.length:Nat):Int)=((b.cols.length:Nat):Int);refine zm [40,41,42] (x:=(((a.cols.length:Nat):Int) != ((b.cols.length:Nat):Int))) (bne_eq_false_iff_eq.2 hb4) ?_ ?_;apply qr 2;refine qy (aw (l:=a.refs) (enc:=Rf.v) kq iw) ?_ ?_ ?_;apply qr 2;refine qy (aw (l:=b.refs) (enc:=Rf.v) kq iw) ?_ ?_ ?_;apply zR 2 (mT [(50,.bool (Mw a b))] [5,6]) id;by_cases hb5:((a.refs.length:Nat):Int)=((b.refs.length:Nat):Int);refine qf (x:=(Mw a b)) (bne_eq_false_iff_eq.2 hb5) ?_ ?_;apply qK;apply zZ (mT [] [50]) id;apply ao;apply zW 1 (mU [(7,.int .i64 0)]) id;apply qB 0;refine aU (σ:=Nat) (fun k=>[(2,.ptr 0 0),(3,.ptr 1 0),(7,nI k)]) (fun k=>(uB a b)) (fun k=>k<=a.cols.length/\∀ i,i<k->(a.cols.getD i Co.zero).beq (b.cols.getD i Co.zero)=true) (fun k=>a.cols.length - k) 0 kq (by exact ⟨Nat.zero_le _,fun i h=>absurd h (Nat.not_lt_zero i)⟩) (fg kq kq az (by simp [ax.belO])) ?_;rintro k ⟨hkk,hak⟩;apply ao;apply zV 3;refine qy (aw (l:=a.cols) (enc:=Co.v) kq eL) ?_ ?_ ?_;apply zR 1 (mU [(55,.bool (decide (((k:Nat):Int)<((a.cols.length:Nat):Int))))]) id;by_cases hb6:((k:Nat):Int)<((a.cols.length:Nat):Int);apply qt (decide_eq_true hb6);apply qK;apply zZ (mT [] [55]) id;apply ao;apply qB 1;apply ao;refine zD cxM kq aj ?_;apply qu 3;refine qd ((av (k:=.i64) (l:=a.cols) (enc:=Co.v) (i:=((k:Nat):Int)) Co.zero kq eL kp (fun _=>rfl) jO jO).trans (congrArg (fun cs=>some (aa.pimm cs 0,_)) (dV (mD a k)))) ?_ ?_ ?_ ?_;apply qu 5;refine qd ((av (k:=.i64) (l:=b.cols) (enc:=Co.v) (i:=((k:Nat):Int)) Co.zero kq eL kp (fun _=>rfl) jO jO).trans (congrArg (fun cs=>some (aa.pimm cs 0,_)) (dV (mJ b k)))) ?_ ?_ ?_ ?_;apply qu 2;refine qQ (d9 ((mD a k).type) ((mJ b k).type) jO) vF vF vF kq ?_;apply qu 1;refine bh kq ⟨kq,?_⟩;apply zE (mU [(8,.bool (GB a k b))]) id;apply ao;refine zD cxM kq aj ?_;apply qu 3;by_cases hb7:(((a.cols.getD k Co.zero).type).beq ((b.cols.getD k Co.zero).type))=true;refine bL 72 (.bool (!(GB a k b))) (.bool false) (bN aj) kq (congrArg aa.bool (congrArg not (hb7))) ?_;refine bL 73 (.bool (!(GB a k b))) (.bool false) (bN aj) kq (congrArg aa.bool (congrArg not (hb7))) ?_;apply qu 3;refine qd ((av (k:=.i64) (l:=a.cols) (enc:=Co.v) (i:=((k:Nat):Int)) Co.zero kq eL kp (fun _=>rfl) jO jO).trans (congrArg (fun cs=>some (aa.pimm cs 0,_)) (dV (mD a k)))) ?_ ?_ ?_ ?_;apply qu 5;refine qd ((av (k:=.i64) (l:=b.cols) (enc:=Co.v) (i:=((k:Nat):Int)) Co.zero kq eL kp (fun _=>rfl) jO jO).trans (congrArg (fun cs=>some (aa.pimm cs 0,_)) (dV (mJ b k)))) ?_ ?_ ?_ ?_;apply qu 4;refine bh kq ⟨kq,?_⟩;apply zE (mT [(74,.ptr 0 1),(75,.imm (a.cols.map Co.v)),(76,nI k),(77,.pimm (Px a k) 0),(78,.pimm (Px a k) 0),(79,.str (mD a k).name),(80,.ptr 1 1),(81,.imm (b.cols.map Co.v)),(82,nI k),(83,.pimm (Py b k) 0),(84,.pimm (Py b k) 0),(85,.str (mJ b k).name),(86,.bool (!((mD a k).name==(mJ b k).name))),(87,.bool (!((mD a k).name==(mJ b k).name)))] [8]) id;by_cases hb8:(a.cols.getD k Co.zero).name=(b.cols.getD k Co.zero).name;refine qf (x:=(!((mD a k).name==(mJ b k).name))) (congrArg not (beq_iff_eq.2 hb8)) ?_ ?_;apply qk;apply ag;apply ab;apply zZ (mT [] [87]) id;apply qo;apply qr 1;refine qy (aA (a:=((k:Nat):Int)) (b:=1) kq jO jO) ?_ ?_ ?_;apply qr 1;apply qe;refine ab ⟨k+1,?_,?_,(fg kq kq az (by simp [ax.belO]))⟩
 . omega
 . refine ⟨by omega,fun i hi=>?_⟩;rcases Nat.lt_succ_iff_lt_or_eq.1 hi with h|h
   . exact hak i h
   . subst h;simp_all [Co.beq]
 iterate 9 kernel_rfl
 refine qt (x:=(!((mD a k).name==(mJ b k).name))) (congrArg not (beq_eq_false_iff_ne.2 hb8)) ?_ ?_;apply zV 1;apply qT;apply iR;apply aR;apply aR;apply iR;apply aR;refine aJ (b:=false) (.inr rfl) kq ?_
 rotate_left
 iterate 13 kernel_rfl
 refine bL 72 (.bool (!(GB a k b))) (.bool true) (bN aj) kq (congrArg aa.bool (congrArg not (Bool.eq_false_iff.2 hb7))) ?_;refine bL 73 (.bool (!(GB a k b))) (.bool true) (bN aj) kq (congrArg aa.bool (congrArg not (Bool.eq_false_iff.2 hb7))) ?_;apply qu 14;refine bh kq ⟨kq,?_⟩;refine zE (fun _=>[(2,.ptr 0 0),(3,.ptr 1 0),(7,nI k),(74,.tup []),(75,.tup []),(76,.tup []),(77,.tup []),(78,.tup []),(79,.tup []),(80,.tup []),(81,.tup []),(82,.tup []),(83,.tup []),(84,.tup []),(85,.tup []),(86,.tup []),(87,.bool true)]) (fun _=>(uB a b)) ?_ ?_;refine cJ kq kq ?_;apply zV 1;apply qT;apply iR;apply aR;apply aR;apply iR;apply aR;refine aJ (b:=false) (.inr rfl) kq ?_
 rotate_left
 iterate 24 kernel_rfl
 apply qf (decide_eq_false hb6);refine aK 0 kq kq ?_;apply ac;apply ac;apply au;apply ab;apply zZ (mT [] [7,55]) id;apply ao;apply zW 1 (mU [(9,.int .i64 0)]) id;apply qB 2;refine aU (σ:=Nat) (fun q=>[(2,.ptr 0 0),(3,.ptr 1 0),(9,nI q)]) (fun q=>(uB a b)) (fun q=>q<=a.refs.length/\∀ i,i<q->(a.refs.getD i Rf.zero).beq (b.refs.getD i Rf.zero)=true) (fun q=>a.refs.length - q) 0 kq (by exact ⟨Nat.zero_le _,fun i h=>absurd h (Nat.not_lt_zero i)⟩) (fg kq kq az (by simp [ax.belO])) ?_;rintro q ⟨hkq,haq⟩;apply ao;apply zV 3;refine qy (aw (l:=a.refs) (enc:=Rf.v) kq iw) ?_ ?_ ?_;apply zR 1 (mU [(92,.bool (decide (((q:Nat):Int)<((a.refs.length:Nat):Int))))]) id;by_cases hb9:((q:Nat):Int)<((a.refs.length:Nat):Int);apply qt (decide_eq_true hb9);apply qK;apply zZ (mT [] [92]) id;apply ao;apply qB 3;apply ao;refine zD cxM kq aj ?_;apply qu 3;refine qd ((av (k:=.i64) (l:=a.refs) (enc:=Rf.v) (i:=((q:Nat):Int)) Rf.zero kq iw ow (fun _=>rfl) jO jO).trans (congrArg (fun cs=>some (aa.pimm cs 0,_)) (fV (a.refs.getD q Rf.zero)))) ?_ ?_ ?_ ?_;apply qu 4;refine qd ((av (k:=.i64) (l:=b.refs) (enc:=Rf.v) (i:=((q:Nat):Int)) Rf.zero kq iw ow (fun _=>rfl) jO jO).trans (congrArg (fun cs=>some (aa.pimm cs 0,_)) (fV (b.refs.getD q Rf.zero)))) ?_ ?_ ?_ ?_;apply qu 1;refine qd (KV kq (Fc (a.refs.getD q Rf.zero) (b.refs.getD q Rf.zero))) ?_ ?_ ?_ ?_;refine bh kq ⟨kq,?_⟩;apply zE (mU [(105,.bool (Lh a q b))]) id;by_cases hb10:(Rf.beq (a.refs.getD q Rf.zero) (b.refs.getD q Rf.zero))=true;refine qf (x:=(Lh a q b)) (congrArg not (hb10)) ?_ ?_;apply qk;apply ag;apply ab;apply zZ (mT [] [105]) id;apply qo;apply qr 1;refine qy (aA (a:=((q:Nat):Int)) (b:=1) kq jO jO) ?_ ?_ ?_;apply qr 1;apply qe;refine ab ⟨q+1,?_,?_,(fg kq kq az (by simp [ax.belO]))⟩
 . omega
 . refine ⟨by omega,fun i hi=>?_⟩;rcases Nat.lt_succ_iff_lt_or_eq.1 hi with h|h
   . exact haq i h
   . subst h;simp_all [Rf.beq]
 iterate 9 kernel_rfl
 refine qt (x:=(Lh a q b)) (congrArg not (Bool.eq_false_iff.2 hb10)) ?_ ?_;apply zV 1;apply qT;apply iR;apply aR;apply aR;apply iR;apply aR;refine aJ (b:=false) (.inr rfl) kq ?_
 rotate_left
 iterate 23 kernel_rfl
 apply qf (decide_eq_false hb9);refine aK 2 kq kq ?_;apply ac;apply ac;apply au;apply ab;refine zZ (fun _=>[]) (fun _=>(uB a b)) ?_ ?_;apply zV 1;apply qT;refine aJ (b:=true) (.inr rfl) kq ?_
 rotate_left
 iterate 27 kernel_rfl
 refine qt (x:=(Mw a b)) (bne_iff_ne.2 hb5) ?_ ?_;apply zV 1;apply qT;apply aR;refine aJ (b:=false) (.inr rfl) kq ?_
 rotate_left
 iterate 11 kernel_rfl
 refine zm [40,41,42] (x:=(((a.cols.length:Nat):Int) != ((b.cols.length:Nat):Int))) (bne_iff_ne.2 hb4) ?_ ?_;refine zR 8 (fun _=>I0) (fun _=>(uB a b)) ?_ ?_;refine cJ kq kq ?_;apply zV 1;apply qT;apply aR;refine aJ (b:=false) (.inr rfl) kq ?_
 rotate_left
 iterate 12 kernel_rfl
 refine zm [31,32,33] (x:=(!(a.name==b.name))) (congrArg not (beq_eq_false_iff_ne.2 hb3)) ?_ ?_;refine zR 17 (fun _=>I0) (fun _=>(uB a b)) ?_ ?_;refine cJ kq kq ?_;apply zV 1;apply qT;apply aR;refine aJ (b:=false) (.inr rfl) kq ?_
 rotate_left
 iterate 6 kernel_rfl
 refine zm [24,25,26] (x:=(!(a.chk.beq b.chk))) (congrArg not (Bool.eq_false_iff.2 hb2)) ?_ ?_;refine zR 24 (fun _=>I0) (fun _=>(uB a b)) ?_ ?_;refine cJ kq kq ?_;apply zV 1;apply qT;apply aR;refine aJ (b:=false) (.inr rfl) kq ?_
 rotate_left
 iterate 6 kernel_rfl
 refine zm [21,22] (x:=(!(a.key==b.key))) (congrArg not (Bool.eq_false_iff.2 hb1)) ?_ ?_;refine zR 28 (fun _=>I0) (fun _=>(uB a b)) ?_ ?_;refine cJ kq kq ?_;apply zV 1;apply qT;apply aR;refine aJ (b:=false) (.inr rfl) kq ?_
 rotate_left
 iterate 12 kernel_rfl
 all_goals
  refine Eq.trans ?_ (show ((a.name==b.name) && (bX Co.beq a.cols b.cols && ((a.key==b.key) && (bX Rf.beq a.refs b.refs && a.chk.beq b.chk))))=a.beq b from rfl)
  first|(simp only [dg Co.beq a.cols b.cols oq,Bool.and_false,Bool.false_and];done)|(simp only [dg Rf.beq a.refs b.refs oq,Bool.and_false,Bool.false_and];done)|(rw [cd Co.beq Co.zero Co.zero a.cols b.cols oq (fun i hi=>hak i oq),cd Rf.beq Rf.zero Rf.zero a.refs b.refs oq (fun i hi=>haq i oq)];simp_all;done)|(rw [dX Rf.beq Rf.zero Rf.zero a.refs b.refs q oq oq (by simp_all)];simp;done)|(rw [dX Co.beq Co.zero Co.zero a.cols b.cols k oq oq (by simp_all [Co.beq])];simp;done)|(simp_all;done)
end Go.Proofs.YtcpklndelobigaaGreatDoor
