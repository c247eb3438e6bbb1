/- Equal of expressions in both packages. No condition. -/
import Derived.Test.YtcpklndelobigaaGreatDoorC3
set_option linter.all false
namespace Go.Proofs.YtcpklndelobigaaGreatDoor
open Go.Proofs.YtcpklndelobigaaGreatDoor.Abs
set_option maxRecDepth 20000
set_option maxHeartbeats 4000000
theorem EH {a b:Ex} {v:Bool} (h:v=((a.kind==b.kind) && ((a.name==b.name) && ((a.n==b.n) && ((a.s==b.s) && ((a.names==b.names) && ((a.binds==b.binds) && bX Ex.beq a.kids b.kids))))))):v=a.beq b:=by rw [AD];exact h
noncomputable def c96:Code:=aF Tryz.f96
abbrev uX (a:Ex)(b:Ex):List ax:=[.box [.int .i64 (a.kind),.str a.name,.int .i64 (a.n),.str a.s,.imm (a.names.map aa.str),.imm (a.binds.map aa.str),.imm (a.kids.map Ex.enc),.int .i64 (a.pos),.int .i64 (a.fin)],.box [.int .i64 (b.kind),.str b.name,.int .i64 (b.n),.str b.s,.imm (b.names.map aa.str),.imm (b.binds.map aa.str),.imm (b.kids.map Ex.enc),.int .i64 (b.pos),.int .i64 (b.fin)]]
abbrev CL :List (Nat×aa):=[(2,.ptr 0 0),(3,.ptr 1 0),(61,.bool true)]
abbrev IZ (a:Ex)(k:Nat)(b:Ex):=((a.kids.getD k Ex.zero).beq (b.kids.getD k Ex.zero))
abbrev Lj (a:Ex)(b:Ex):=(((a.kids.length:Nat):Int) != ((b.kids.length:Nat):Int))
theorem uw {p:Prop} (h:p:=by simp [Ty.v,Ex.v]):p:=h
theorem Am (a b:Ex) (hs:a.sz<100000000):af cx 96 [Ex.v a,Ex.v b] (.bool (a.beq b)):=by
 induction hN:a.sz using Nat.strongRecOn generalizing a b with|_ N ih =>
 have hc:∀ i,i<a.kids.length->i<b.kids.length->af cx 96 [(a.kids.getD i Ex.zero).v,(b.kids.getD i Ex.zero).v] (.bool ((a.kids.getD i Ex.zero).beq (b.kids.getD i Ex.zero))):=fun i h1 _=>ih _ (by rw [<- hN];exact uT a i h1) _ _ (Nat.lt_trans (uT a i h1) hs) rfl
 have hz1:=DF a;have hz2:=D9 a;have hz3:=C8 a;refine am (cx:=cx) 82 0 [(ResultVar.tmp 4)] Tryz.func96 rfl rfl rfl rfl rfl zq ?_;show wpA cx 82 0 (at_ c96 []) _ _ _;refine zZ (fun _=>[(0,Ex.v a),(1,Ex.v b)]) (fun _=>[]) ?_ ?_;apply zW 3 (mT [(2,.ptr 0 0),(3,.ptr 1 0)] [0,1]) (mH [] (uX a b));apply zV 4;refine qP (dv a.names b.names oq) uw uw uw kq ?_;apply zR 1 (mU [(5,.bool (a.names==b.names))]) id;apply zV 4;refine qP (dv a.binds b.binds oq) uw uw uw kq ?_;apply zR 1 (mU [(6,.bool (a.binds==b.binds))]) id;apply ao;apply zV 3;by_cases hb1:(a.names==b.names)=true;refine zm [20,21] (x:=(!(a.names==b.names))) (congrArg not (hb1)) ?_ ?_;apply qr 4;by_cases hb2:(a.binds==b.binds)=true;refine zm [23,24,25] (x:=(!(a.binds==b.binds))) (congrArg not (hb2)) ?_ ?_;apply qr 7;by_cases hb3:(a.kind)=(b.kind);refine zm [30,31,32] (x:=((a.kind) != (b.kind))) (bne_eq_false_iff_eq.2 hb3) ?_ ?_;apply qr 7;by_cases hb4:a.name=b.name;refine zm [37,38,39] (x:=(!(a.name==b.name))) (congrArg not (beq_iff_eq.2 hb4)) ?_ ?_;apply qr 7;by_cases hb5:(a.n)=(b.n);refine zm [44,45,46] (x:=((a.n) != (b.n))) (bne_eq_false_iff_eq.2 hb5) ?_ ?_;apply qr 7;by_cases hb6:a.s=b.s;refine zm [51,52,53] (x:=(!(a.s==b.s))) (congrArg not (beq_iff_eq.2 hb6)) ?_ ?_;apply qr 2;refine qy (aw (l:=a.kids) (enc:=Ex.enc) kq Es) ?_ ?_ ?_;apply qr 2;refine qy (aw (l:=b.kids) (enc:=Ex.enc) kq Es) ?_ ?_ ?_;apply zR 2 (mT [(61,.bool (Lj a b))] [5,6]) id;by_cases hb7:((a.kids.length:Nat):Int)=((b.kids.length:Nat):Int);refine qf (x:=(Lj a b)) (bne_eq_false_iff_eq.2 hb7) ?_ ?_;apply qK;apply zZ (mT [] [61]) id;apply ao;apply zW 1 (mU [(7,.int .i64 0)]) id;apply qB 0;refine aU (σ:=Nat) (fun k=>[(2,.ptr 0 0),(3,.ptr 1 0),(7,nI k)]) (fun k=>(uX a b)) (fun k=>k<=a.kids.length/\∀ i,i<k->(a.kids.getD i Ex.zero).beq (b.kids.getD i Ex.zero)=true) (fun k=>a.kids.length - k) 0 kq zq (fg kq kq az (by simp [ax.belO])) ?_;rintro k ⟨hk,ha⟩;apply ao;apply zV 3;refine qy (aw (l:=a.kids) (enc:=Ex.enc) kq Es) ?_ ?_ ?_;apply zR 1 (mU [(66,.bool (decide (((k:Nat):Int)<((a.kids.length:Nat):Int))))]) id;by_cases hb8:((k:Nat):Int)<((a.kids.length:Nat):Int);apply qt (decide_eq_true hb8);apply qK;apply zZ (mT [] [66]) id;apply ao;apply qB 1;apply ao;refine zD cxM kq aj ?_;apply qu 3;refine qd ((av (k:=.i64) (l:=a.kids) (enc:=Ex.enc) (i:=((k:Nat):Int)) Ex.zero kq Es NB By oq oq).trans (congrArg (fun cs=>some (aa.pimm cs 0,_)) (rx (a.kids.getD k Ex.zero)))) ?_ ?_ ?_ ?_;apply qu 4;refine qd ((av (k:=.i64) (l:=b.kids) (enc:=Ex.enc) (i:=((k:Nat):Int)) Ex.zero kq Es NB By oq oq).trans (congrArg (fun cs=>some (aa.pimm cs 0,_)) (rx (b.kids.getD k Ex.zero)))) ?_ ?_ ?_ ?_;apply qu 1;refine qQ (hc k oq oq) uw uw uw kq ?_;apply qu 1;refine bh kq ⟨kq,?_⟩;apply zE (mU [(8,.bool (IZ a k b))]) id;apply zW 2 (mT [(81,.bool (!(IZ a k b)))] [8]) id;by_cases hb9:((a.kids.getD k Ex.zero).beq (b.kids.getD k Ex.zero))=true;refine qf (x:=(!(IZ a k b))) (congrArg not (hb9)) ?_ ?_;apply qk;apply ag;apply ab;apply zZ (mT [] [81]) id;apply qo;apply qr 1;refine qy (aA (a:=((k:Nat):Int)) (b:=1) kq oq oq) ?_ ?_ ?_;apply qr 1;apply qe;refine ab ⟨k+1,?_,?_,(fg kq kq az (by simp [ax.belO]))⟩
 . omega
 . refine ⟨by omega,fun i hi=>?_⟩;rcases Nat.lt_succ_iff_lt_or_eq.1 hi with h|h
   . exact ha i h
   . subst h;assumption
 iterate 9 kernel_rfl
 refine qt (x:=(!(IZ a k b))) (congrArg not (Bool.eq_false_iff.2 hb9)) ?_ ?_;apply zV 1;apply qT;apply iR;apply aR;apply aR;apply iR;apply aR;refine aJ (b:=false) (.inr rfl) kq ?_
 rotate_left
 iterate 22 kernel_rfl
 apply qf (decide_eq_false hb8);refine aK 0 kq kq ?_;apply ac;apply ac;apply au;apply ab;refine zZ (fun _=>[]) (fun _=>(uX a b)) ?_ ?_;apply zV 1;apply qT;refine aJ (b:=true) (.inr rfl) kq ?_
 rotate_left
 iterate 16 kernel_rfl
 refine qt (x:=(Lj a b)) (bne_iff_ne.2 hb7) ?_ ?_;apply zV 1;apply qT;apply aR;refine aJ (b:=false) (.inr rfl) kq ?_
 rotate_left
 iterate 11 kernel_rfl
 refine zm [51,52,53] (x:=(!(a.s==b.s))) (congrArg not (beq_eq_false_iff_ne.2 hb6)) ?_ ?_;refine zR 8 (fun _=>CL) (fun _=>(uX a b)) ?_ ?_;refine cJ kq kq ?_;apply zV 1;apply qT;apply aR;refine aJ (b:=false) (.inr rfl) kq ?_
 rotate_left
 iterate 6 kernel_rfl
 refine zm [44,45,46] (x:=((a.n) != (b.n))) (bne_iff_ne.2 hb5) ?_ ?_;refine zR 15 (fun _=>CL) (fun _=>(uX a b)) ?_ ?_;refine cJ kq kq ?_;apply zV 1;apply qT;apply aR;refine aJ (b:=false) (.inr rfl) kq ?_
 rotate_left
 iterate 6 kernel_rfl
 refine zm [37,38,39] (x:=(!(a.name==b.name))) (congrArg not (beq_eq_false_iff_ne.2 hb4)) ?_ ?_;refine zR 22 (fun _=>CL) (fun _=>(uX a b)) ?_ ?_;refine cJ kq kq ?_;apply zV 1;apply qT;apply aR;refine aJ (b:=false) (.inr rfl) kq ?_
 rotate_left
 iterate 6 kernel_rfl
 refine zm [30,31,32] (x:=((a.kind) != (b.kind))) (bne_iff_ne.2 hb3) ?_ ?_;refine zR 29 (fun _=>CL) (fun _=>(uX a b)) ?_ ?_;refine cJ kq kq ?_;apply zV 1;apply qT;apply aR;refine aJ (b:=false) (.inr rfl) kq ?_
 rotate_left
 iterate 6 kernel_rfl
 refine zm [23,24,25] (x:=(!(a.binds==b.binds))) (congrArg not (Bool.eq_false_iff.2 hb2)) ?_ ?_;refine zR 36 (fun _=>CL) (fun _=>(uX a b)) ?_ ?_;refine cJ kq kq ?_;apply zV 1;apply qT;apply aR;refine aJ (b:=false) (.inr rfl) kq ?_
 rotate_left
 iterate 6 kernel_rfl
 refine zm [20,21] (x:=(!(a.names==b.names))) (congrArg not (Bool.eq_false_iff.2 hb1)) ?_ ?_;refine zR 40 (fun _=>CL) (fun _=>(uX a b)) ?_ ?_;refine cJ kq kq ?_;apply zV 1;apply qT;apply aR;refine aJ (b:=false) (.inr rfl) kq ?_
 rotate_left
 iterate 12 kernel_rfl
 all_goals
  refine EH ?_
  first|(simp only [dg Ex.beq a.kids b.kids oq,Bool.and_false];done)|(rw [cd Ex.beq Ex.zero Ex.zero a.kids b.kids oq (fun i hi=>ha i oq)];simp_all;done)|(rw [dX Ex.beq Ex.zero Ex.zero a.kids b.kids k oq oq (Bool.eq_false_iff.2 aq)];simp;done)|(simp_all;done)
end Go.Proofs.YtcpklndelobigaaGreatDoor
