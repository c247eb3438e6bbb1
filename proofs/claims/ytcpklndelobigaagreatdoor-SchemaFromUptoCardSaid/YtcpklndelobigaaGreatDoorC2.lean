/- Equal of types in both packages. No condition. -/
import Derived.Test.YtcpklndelobigaaGreatDoorC1
set_option linter.all false
namespace Go.Proofs.YtcpklndelobigaaGreatDoor
open Go.Proofs.YtcpklndelobigaaGreatDoor.Abs
set_option maxRecDepth 20000
set_option maxHeartbeats 4000000
theorem tS {a b:List (List UInt8)} (hl:a.length=b.length) (h:∀ i,i<a.length->a.getD i []=b.getD i []):true=(a==b):=by
 rw [<- lD,cd (·==·) [] [] a b hl (fun i hi=>by simpa using h i hi)]
theorem Bc {a b:List (List UInt8)} {i:Nat} (hl:a.length=b.length) (hi:i<a.length) (h:¬ a.getD i []=b.getD i []):false=(a==b):=by
 rw [<- lD,dX (·==·) [] [] a b i hl hi (by simpa using h)]
theorem xw {a b:List (List UInt8)} (hl:¬ ((a.length:Nat):Int)=((b.length:Nat):Int)):false=(a==b):=by
 rw [<- lD,dg _ a b oq]
noncomputable def c42:Code:=aF Tryz.f42
theorem az {p:Prop} (h:p:=by simp [sF,aa.bel]):p:=h
theorem dv (a b:List (List UInt8)) (hn:a.length<1000000000):af cx 42 [.imm (a.map aa.str),.imm (b.map aa.str)] (.bool (a==b)):=by
 refine am (cx:=cx) 26 0 [(ResultVar.tmp 4)] Tryz.func42 rfl rfl rfl rfl rfl zq ?_;show wpA cx 26 0 (at_ c42 []) _ _ _;refine zZ (fun _=>[(0,.imm (a.map aa.str)),(1,.imm (b.map aa.str))]) (fun _=>[]) ?_ ?_;apply zW 1 id id;apply ao;apply zV 1;refine qy (aw (l:=a) (enc:=aa.str) kq bf) ?_ ?_ ?_;apply qr 1;refine qy (aw (l:=b) (enc:=aa.str) kq bf) ?_ ?_ ?_;apply zR 1 (mU [(10,.bool (((a.length:Nat):Int) != ((b.length:Nat):Int)))]) id;by_cases hb1:((a.length:Nat):Int)=((b.length:Nat):Int);refine qf (x:=(((a.length:Nat):Int) != ((b.length:Nat):Int))) (bne_eq_false_iff_eq.2 hb1) ?_ ?_;apply qK;apply zZ (mT [] [10]) id;apply ao;apply zW 1 (mU [(5,.int .i64 0)]) id;apply qB 0;refine aU (σ:=Nat) (fun k=>[(0,.imm (a.map aa.str)),(1,.imm (b.map aa.str)),(5,.int .i64 ((k:Nat):Int))]) (fun k=>[]) (fun k=>k<=a.length/\∀ i,i<k->a.getD i []=b.getD i []) (fun k=>a.length - k) 0 kq zq (fg kq kq az zq) ?_;rintro k ⟨hk,ha⟩;apply ao;apply zV 2;refine qy (aw (l:=a) (enc:=aa.str) kq bf) ?_ ?_ ?_;apply zR 1 (mU [(14,.bool (decide (((k:Nat):Int)<((a.length:Nat):Int))))]) id;by_cases hb2:((k:Nat):Int)<((a.length:Nat):Int);apply qt (decide_eq_true hb2);apply qK;apply zZ (mT [] [14]) id;apply ao;apply qB 1;apply ao;refine zD cxM kq aj ?_;apply qu 2;refine qd (av (k:=.i64) (l:=a) (enc:=aa.str) (i:=((k:Nat):Int)) [] kq bf ty9 (fun _=>rfl) oq oq) ?_ ?_ ?_ ?_;apply qu 3;refine qd (av (k:=.i64) (l:=b) (enc:=aa.str) (i:=((k:Nat):Int)) [] kq bf ty9 (fun _=>rfl) oq oq) ?_ ?_ ?_ ?_;apply qu 2;refine bh kq ⟨kq,?_⟩;apply zE (mU [(25,.bool (!((a.getD k [])==(b.getD k []))))]) id;by_cases hb3:(a.getD k [])=(b.getD k []);refine qf (x:=(!((a.getD k [])==(b.getD k [])))) (congrArg not (beq_iff_eq.2 hb3)) ?_ ?_;apply qk;apply ag;apply ab;apply zZ (mT [] [25]) id;apply qo;apply qr 1;refine qy (aA (a:=((k:Nat):Int)) (b:=1) kq oq oq) ?_ ?_ ?_;apply qr 1;apply qe;refine ab ⟨k+1,?_,?_,(fg kq kq az zq)⟩
 . omega
 . refine ⟨by omega,fun i hi=>?_⟩;rcases Nat.lt_succ_iff_lt_or_eq.1 hi with h|h
   . exact ha i h
   . subst h;assumption
 iterate 9 kernel_rfl
 refine qt (x:=(!((a.getD k [])==(b.getD k [])))) (congrArg not (beq_eq_false_iff_ne.2 hb3)) ?_ ?_;apply zV 1;apply qT;apply iR;apply aR;apply aR;apply iR;apply aR;refine aJ (b:=false) (.inr rfl) kq ?_
 rotate_left
 iterate 20 kernel_rfl
 apply qf (decide_eq_false hb2);refine aK 0 kq kq ?_;apply ac;apply ac;apply au;apply ab;refine zZ (fun _=>[]) (fun _=>[]) ?_ ?_;apply zV 1;apply qT;refine aJ (b:=true) (.inr rfl) kq ?_
 rotate_left
 iterate 16 kernel_rfl
 refine qt (x:=(((a.length:Nat):Int) != ((b.length:Nat):Int))) (bne_iff_ne.2 hb1) ?_ ?_;apply zV 1;apply qT;apply aR;refine aJ (b:=false) (.inr rfl) kq ?_
 rotate_left
 iterate 13 kernel_rfl
 all_goals
  first|exact xw aq|exact tS oq (fun i hi=>ha i oq)|exact Bc (i:=k) oq oq aq
noncomputable def c64:Code:=aF Tryz.f64
theorem nU (a b:List (List UInt8)) (hn:a.length<1000000000):af cx 64 [.imm (a.map aa.str),.imm (b.map aa.str)] (.bool (a==b)):=by
 refine am (cx:=cx) 26 0 [(ResultVar.tmp 4)] Tryz.func64 rfl rfl rfl rfl rfl zq ?_;show wpA cx 26 0 (at_ c64 []) _ _ _;refine zZ (fun _=>[(0,.imm (a.map aa.str)),(1,.imm (b.map aa.str))]) (fun _=>[]) ?_ ?_;apply zW 1 id id;apply ao;apply zV 1;refine qy (aw (l:=a) (enc:=aa.str) kq bf) ?_ ?_ ?_;apply qr 1;refine qy (aw (l:=b) (enc:=aa.str) kq bf) ?_ ?_ ?_;apply zR 1 (mU [(10,.bool (((a.length:Nat):Int) != ((b.length:Nat):Int)))]) id;by_cases hb1:((a.length:Nat):Int)=((b.length:Nat):Int);refine qf (x:=(((a.length:Nat):Int) != ((b.length:Nat):Int))) (bne_eq_false_iff_eq.2 hb1) ?_ ?_;apply qK;apply zZ (mT [] [10]) id;apply ao;apply zV 1;refine qy (aw (l:=a) (enc:=aa.str) kq bf) ?_ ?_ ?_;apply zR 1 (mU [(12,nI a.length),(13,.int .i64 0)]) id;apply qB 0;refine aU (σ:=Nat) (fun k=>[(0,.imm (a.map aa.str)),(1,.imm (b.map aa.str)),(12,.int .i64 ((a.length:Nat):Int)),(13,.int .i64 ((k:Nat):Int))]) (fun k=>[]) (fun k=>k<=a.length/\∀ i,i<k->a.getD i []=b.getD i []) (fun k=>a.length - k) 0 kq zq (fg kq kq az zq) ?_;rintro k ⟨hk,ha⟩;apply zW 1 (mU [(14,.bool (decide (((k:Nat):Int)<((a.length:Nat):Int))))]) id;apply ao;by_cases hb2:((k:Nat):Int)<((a.length:Nat):Int);apply qt (decide_eq_true hb2);apply qK;apply zZ (mT [] [14]) id;apply ao;apply qB 1;apply zW 2 (mU [(5,nI k)]) id;apply ao;refine zD cxM kq aj ?_;apply qu 2;refine qd (av (k:=.i64) (l:=a) (enc:=aa.str) (i:=((k:Nat):Int)) [] kq bf ty9 (fun _=>rfl) oq oq) ?_ ?_ ?_ ?_;apply qu 3;refine qd (av (k:=.i64) (l:=b) (enc:=aa.str) (i:=((k:Nat):Int)) [] kq bf ty9 (fun _=>rfl) oq oq) ?_ ?_ ?_ ?_;apply qu 2;refine bh kq ⟨kq,?_⟩;apply zE (mT [(24,.bool (!((a.getD k [])==(b.getD k []))))] [5]) id;by_cases hb3:(a.getD k [])=(b.getD k []);refine qf (x:=(!((a.getD k [])==(b.getD k [])))) (congrArg not (beq_iff_eq.2 hb3)) ?_ ?_;apply qk;apply ag;apply ab;apply zZ (mT [] [24]) id;apply qo;refine qy (aA (a:=((k:Nat):Int)) (b:=1) kq oq oq) ?_ ?_ ?_;apply qr 1;apply qe;refine ab ⟨k+1,?_,?_,(fg kq kq az zq)⟩
 . omega
 . refine ⟨by omega,fun i hi=>?_⟩;rcases Nat.lt_succ_iff_lt_or_eq.1 hi with h|h
   . exact ha i h
   . subst h;assumption
 iterate 8 kernel_rfl
 refine qt (x:=(!((a.getD k [])==(b.getD k [])))) (congrArg not (beq_eq_false_iff_ne.2 hb3)) ?_ ?_;apply zV 1;apply qT;apply iR;apply aR;apply aR;apply iR;apply aR;refine aJ (b:=false) (.inr rfl) kq ?_
 rotate_left
 iterate 21 kernel_rfl
 apply qf (decide_eq_false hb2);refine aK 0 kq kq ?_;apply ac;apply ac;apply au;apply ab;refine zZ (fun _=>[]) (fun _=>[]) ?_ ?_;apply zV 1;apply qT;refine aJ (b:=true) (.inr rfl) kq ?_
 rotate_left
 iterate 16 kernel_rfl
 refine qt (x:=(((a.length:Nat):Int) != ((b.length:Nat):Int))) (bne_iff_ne.2 hb1) ?_ ?_;apply zV 1;apply qT;apply aR;refine aJ (b:=false) (.inr rfl) kq ?_
 rotate_left
 iterate 13 kernel_rfl
 all_goals
  first|exact xw aq|exact tS oq (fun i hi=>ha i oq)|exact Bc (i:=k) oq oq aq
noncomputable def Qw:Code:=aF Tryz.f143
theorem mG {p:Prop} (h:p:=by simp [Ty.v]):p:=h
theorem xW (a b:List Ty) (f:Nat) (p:Ty->Ty->Bool) (hc:∀ i,i<a.length->i<b.length->af cx f [(a.getD i Ty.zero).v,(b.getD i Ty.zero).v] (.bool (p (a.getD i Ty.zero) (b.getD i Ty.zero)))) (hn:a.length<1000000000):af cx 143 [.imm (a.map Ty.enc),.imm (b.map Ty.enc),.fn (.func f) [] []] (.bool (bX p a b)):=by
 refine am (cx:=cx) 32 0 [(ResultVar.tmp 6)] Tryz.func143 rfl rfl rfl rfl rfl zq ?_;show wpA cx 32 0 (at_ Qw []) _ _ _;refine zZ (fun _=>[(0,.imm (a.map Ty.enc)),(1,.imm (b.map Ty.enc)),(2,.fn (.func f) [] [])]) (fun _=>[]) ?_ ?_;apply zW 1 id id;apply ao;apply zV 1;refine qy (aw (l:=a) (enc:=Ty.enc) kq dC) ?_ ?_ ?_;apply qr 1;refine qy (aw (l:=b) (enc:=Ty.enc) kq dC) ?_ ?_ ?_;apply zR 1 (mU [(14,.bool (((a.length:Nat):Int) != ((b.length:Nat):Int)))]) id;by_cases hb1:((a.length:Nat):Int)=((b.length:Nat):Int);refine qf (x:=(((a.length:Nat):Int) != ((b.length:Nat):Int))) (bne_eq_false_iff_eq.2 hb1) ?_ ?_;apply qK;apply zZ (mT [] [14]) id;apply ao;apply zV 1;refine qy (aw (l:=a) (enc:=Ty.enc) kq dC) ?_ ?_ ?_;apply zR 1 (mT [(15,.imm (a.map Ty.enc)),(16,nI a.length),(17,.int .i64 0)] [0]) id;apply qB 0;refine aU (σ:=Nat) (fun k=>[(1,.imm (b.map Ty.enc)),(2,.fn (.func f) [] []),(15,.imm (a.map Ty.enc)),(16,.int .i64 ((a.length:Nat):Int)),(17,.int .i64 ((k:Nat):Int))]) (fun k=>[]) (fun k=>k<=a.length/\∀ i,i<k->p (a.getD i Ty.zero) (b.getD i Ty.zero)=true) (fun k=>a.length - k) 0 kq zq (fg kq kq az zq) ?_;rintro k ⟨hk,ha⟩;apply zW 1 (mU [(18,.bool (decide (((k:Nat):Int)<((a.length:Nat):Int))))]) id;apply ao;by_cases hb2:((k:Nat):Int)<((a.length:Nat):Int);apply qt (decide_eq_true hb2);apply qK;apply zZ (mT [] [18]) id;apply ao;apply qB 1;apply zV 1;refine qy ((av (k:=.i64) (l:=a) (enc:=Ty.enc) (i:=((k:Nat):Int)) Ty.zero kq dC gF dN oq oq).trans (congrArg (fun cs=>some (aa.pimm cs 0,_)) (db (a.getD k Ty.zero)))) ?_ ?_ ?_;apply zR 4 (mU [(7,nI k),(8,.ptr 0 0)]) (mH [] [(a.getD k Ty.zero).bx]);apply zV 2;refine qy ((av (k:=.i64) (l:=b) (enc:=Ty.enc) (i:=((k:Nat):Int)) Ty.zero kq dC gF dN oq oq).trans (congrArg (fun cs=>some (aa.pimm cs 0,_)) (db (b.getD k Ty.zero)))) ?_ ?_ ?_;apply zR 3 (mT [(9,.ptr 1 0)] [7]) (mH [] [(b.getD k Ty.zero).bx]);apply zV 3;refine qP (hc k oq oq) mG mG mG kq ?_;apply zR 1 (mT [(30,.bool (!(p (a.getD k Ty.zero) (b.getD k Ty.zero))))] [8,9]) id;by_cases hb3:(p (a.getD k Ty.zero) (b.getD k Ty.zero))=true;refine qf (x:=(!(p (a.getD k Ty.zero) (b.getD k Ty.zero)))) (congrArg not (hb3)) ?_ ?_;apply qk;apply ag;apply ab;apply zZ (mT [] [30]) id;apply qo;refine qy (aA (a:=((k:Nat):Int)) (b:=1) kq oq oq) ?_ ?_ ?_;apply qr 1;apply qe;refine ab ⟨k+1,?_,?_,(fg kq kq az zq)⟩
 . omega
 . refine ⟨by omega,fun i hi=>?_⟩;rcases Nat.lt_succ_iff_lt_or_eq.1 hi with h|h
   . exact ha i h
   . subst h;assumption
 iterate 8 kernel_rfl
 refine qt (x:=(!(p (a.getD k Ty.zero) (b.getD k Ty.zero)))) (congrArg not (Bool.eq_false_iff.2 hb3)) ?_ ?_;apply zV 1;apply qT;apply iR;apply aR;apply aR;apply iR;apply aR;refine aJ (b:=false) (.inr rfl) kq ?_
 rotate_left
 iterate 19 kernel_rfl
 apply qf (decide_eq_false hb2);refine aK 0 kq kq ?_;apply ac;apply ac;apply au;apply ab;refine zZ (fun _=>[]) (fun _=>[]) ?_ ?_;apply zV 1;apply qT;refine aJ (b:=true) (.inr rfl) kq ?_
 rotate_left
 iterate 16 kernel_rfl
 refine qt (x:=(((a.length:Nat):Int) != ((b.length:Nat):Int))) (bne_iff_ne.2 hb1) ?_ ?_;apply zV 1;apply qT;apply aR;refine aJ (b:=false) (.inr rfl) kq ?_
 rotate_left
 iterate 13 kernel_rfl
 all_goals
  first|exact (dg p a b oq).symm|exact (cd p Ty.zero Ty.zero a b oq (fun i hi=>ha i oq)).symm|exact (dX p Ty.zero Ty.zero a b k oq oq (Bool.eq_false_iff.2 aq)).symm
noncomputable def c58:Code:=aF Tryz.f58
theorem pd (a b:Ty) (hs:a.sz<100000000):af cx 58 [Ty.v a,Ty.v b] (.bool (a.beq b)):=by
 induction hN:a.sz using Nat.strongRecOn generalizing a b with|_ N ih =>
 have hc:∀ i,i<a.kids.length->i<b.kids.length->af cx 58 [(a.kids.getD i Ty.zero).v,(b.kids.getD i Ty.zero).v] (.bool ((a.kids.getD i Ty.zero).beq (b.kids.getD i Ty.zero))):=fun i h1 _=>ih _ (by rw [<- hN];exact fv a i h1) _ _ (Nat.lt_trans (fv a i h1) hs) rfl
 have hz1:=jh a;have hz2:=iT a;refine am (cx:=cx) 38 0 [(ResultVar.tmp 4)] Tryz.func58 rfl rfl rfl rfl rfl zq ?_;show wpA cx 38 0 (at_ c58 []) _ _ _;refine zZ (fun _=>[(0,Ty.v a),(1,Ty.v b)]) (fun _=>[]) ?_ ?_;apply zW 3 (mT [(2,.ptr 0 0),(3,.ptr 1 0)] [0,1]) (mH [] [a.bx,b.bx]);apply zV 6;by_cases hb1:(a.kind)=(b.kind);apply zm [9,10] (beq_iff_eq.2 hb1);apply qr 7;by_cases hb2:a.name=b.name;apply zm [15,16,17] (beq_iff_eq.2 hb2);apply qr 7;by_cases hb3:(a.n)=(b.n);apply zm [22,23,24] (beq_iff_eq.2 hb3);apply qr 4;refine qP (nU a.names b.names oq) mG mG mG kq ?_;apply qr 2;by_cases hb4:(a.names==b.names)=true;apply zm [29,30,31] (hb4);apply qr 4;refine qP (xW a.kids b.kids 58 Ty.beq (hc) oq) mG mG mG kq ?_;apply qX 2;refine aJ (b:=(bX Ty.beq a.kids b.kids)) (.inr rfl) kq ?_
 . simp [beq_eq, *]
 iterate 3 kernel_rfl
 apply zm [29,30,31] (Bool.eq_false_iff.2 hb4);apply qX 7;refine aJ (b:=false) (.inr rfl) kq ?_
 . simp [beq_eq, *]
 iterate 5 kernel_rfl
 apply zm [22,23,24] (beq_eq_false_iff_ne.2 hb3);apply qX 14;refine aJ (b:=false) (.inr rfl) kq ?_
 . simp [beq_eq, *]
 iterate 4 kernel_rfl
 apply zm [15,16,17] (beq_eq_false_iff_ne.2 hb2);apply qX 21;refine aJ (b:=false) (.inr rfl) kq ?_
 . simp [beq_eq, *]
 iterate 4 kernel_rfl
 apply zm [9,10] (beq_eq_false_iff_ne.2 hb1);apply qX 28;refine aJ (b:=false) (.inr rfl) kq ?_
 . simp [beq_eq, *]
 iterate 5 kernel_rfl
theorem IV {a b:Ty} {v:Bool} (h:v=((a.kind==b.kind) && ((a.name==b.name) && ((a.n==b.n) && ((a.names==b.names) && bX Ty.beq a.kids b.kids))))):v=a.beq b:=by rw [beq_eq];exact h
noncomputable def c95:Code:=aF Tryz.f95
theorem d9 (a b:Ty) (hs:a.sz<100000000):af cx 95 [Ty.v a,Ty.v b] (.bool (a.beq b)):=by
 induction hN:a.sz using Nat.strongRecOn generalizing a b with|_ N ih =>
 have hc:∀ i,i<a.kids.length->i<b.kids.length->af cx 95 [(a.kids.getD i Ty.zero).v,(b.kids.getD i Ty.zero).v] (.bool ((a.kids.getD i Ty.zero).beq (b.kids.getD i Ty.zero))):=fun i h1 _=>ih _ (by rw [<- hN];exact fv a i h1) _ _ (Nat.lt_trans (fv a i h1) hs) rfl
 have hz1:=jh a;have hz2:=iT a;refine am (cx:=cx) 65 0 [(ResultVar.tmp 4)] Tryz.func95 rfl rfl rfl rfl rfl zq ?_;show wpA cx 65 0 (at_ c95 []) _ _ _;refine zZ (fun _=>[(0,Ty.v a),(1,Ty.v b)]) (fun _=>[]) ?_ ?_;apply zW 3 (mT [(2,.ptr 0 0),(3,.ptr 1 0)] [0,1]) (mH [] [a.bx,b.bx]);apply zV 4;refine qP (dv a.names b.names oq) mG mG mG kq ?_;apply zR 1 (mU [(5,.bool (a.names==b.names))]) id;apply ao;apply zV 3;by_cases hb1:(a.names==b.names)=true;refine zm [14,15] (x:=(!(a.names==b.names))) (congrArg not (hb1)) ?_ ?_;apply qr 7;by_cases hb2:(a.kind)=(b.kind);refine zm [20,21,22] (x:=((a.kind) != (b.kind))) (bne_eq_false_iff_eq.2 hb2) ?_ ?_;apply qr 7;by_cases hb3:a.name=b.name;refine zm [27,28,29] (x:=(!(a.name==b.name))) (congrArg not (beq_iff_eq.2 hb3)) ?_ ?_;apply qr 7;by_cases hb4:(a.n)=(b.n);refine zm [34,35,36] (x:=((a.n) != (b.n))) (bne_eq_false_iff_eq.2 hb4) ?_ ?_;apply qr 2;refine qy (aw (l:=a.kids) (enc:=Ty.enc) kq dC) ?_ ?_ ?_;apply qr 2;refine qy (aw (l:=b.kids) (enc:=Ty.enc) kq dC) ?_ ?_ ?_;apply zR 2 (mT [(44,.bool (((a.kids.length:Nat):Int) != ((b.kids.length:Nat):Int)))] [5]) id;by_cases hb5:((a.kids.length:Nat):Int)=((b.kids.length:Nat):Int);refine qf (x:=(((a.kids.length:Nat):Int) != ((b.kids.length:Nat):Int))) (bne_eq_false_iff_eq.2 hb5) ?_ ?_;apply qK;apply zZ (mT [] [44]) id;apply ao;apply zW 1 (mU [(6,.int .i64 0)]) id;apply qB 0;refine aU (σ:=Nat) (fun k=>[(2,.ptr 0 0),(3,.ptr 1 0),(6,.int .i64 ((k:Nat):Int))]) (fun k=>[a.bx,b.bx]) (fun k=>k<=a.kids.length/\∀ i,i<k->(a.kids.getD i Ty.zero).beq (b.kids.getD i Ty.zero)=true) (fun k=>a.kids.length - k) 0 kq zq (fg kq kq az (by simp [ax.belO])) ?_;rintro k ⟨hk,ha⟩;apply ao;apply zV 3;refine qy (aw (l:=a.kids) (enc:=Ty.enc) kq dC) ?_ ?_ ?_;apply zR 1 (mU [(49,.bool (decide (((k:Nat):Int)<((a.kids.length:Nat):Int))))]) id;by_cases hb6:((k:Nat):Int)<((a.kids.length:Nat):Int);apply qt (decide_eq_true hb6);apply qK;apply zZ (mT [] [49]) id;apply ao;apply qB 1;apply ao;refine zD cxM kq aj ?_;apply qu 3;refine qd ((av (k:=.i64) (l:=a.kids) (enc:=Ty.enc) (i:=((k:Nat):Int)) Ty.zero kq dC gF dN oq oq).trans (congrArg (fun cs=>some (aa.pimm cs 0,_)) (db (a.kids.getD k Ty.zero)))) ?_ ?_ ?_ ?_;apply qu 4;refine qd ((av (k:=.i64) (l:=b.kids) (enc:=Ty.enc) (i:=((k:Nat):Int)) Ty.zero kq dC gF dN oq oq).trans (congrArg (fun cs=>some (aa.pimm cs 0,_)) (db (b.kids.getD k Ty.zero)))) ?_ ?_ ?_ ?_;apply qu 1;refine qQ (hc k oq oq) mG mG mG kq ?_;apply qu 1;refine bh kq ⟨kq,?_⟩;apply zE (mU [(7,.bool ((a.kids.getD k Ty.zero).beq (b.kids.getD k Ty.zero)))]) id;apply zW 2 (mT [(64,.bool (!((a.kids.getD k Ty.zero).beq (b.kids.getD k Ty.zero))))] [7]) id;by_cases hb7:((a.kids.getD k Ty.zero).beq (b.kids.getD k Ty.zero))=true;refine qf (x:=(!((a.kids.getD k Ty.zero).beq (b.kids.getD k Ty.zero)))) (congrArg not (hb7)) ?_ ?_;apply qk;apply ag;apply ab;apply zZ (mT [] [64]) id;apply qo;apply qr 1;refine qy (aA (a:=((k:Nat):Int)) (b:=1) kq oq oq) ?_ ?_ ?_;apply qr 1;apply qe;refine ab ⟨k+1,?_,?_,(fg kq kq az (by simp [ax.belO]))⟩
 . omega
 . refine ⟨by omega,fun i hi=>?_⟩;rcases Nat.lt_succ_iff_lt_or_eq.1 hi with h|h
   . exact ha i h
   . subst h;assumption
 iterate 9 kernel_rfl
 refine qt (x:=(!((a.kids.getD k Ty.zero).beq (b.kids.getD k Ty.zero)))) (congrArg not (Bool.eq_false_iff.2 hb7)) ?_ ?_;apply zV 1;apply qT;apply iR;apply aR;apply aR;apply iR;apply aR;refine aJ (b:=false) (.inr rfl) kq ?_
 rotate_left
 iterate 22 kernel_rfl
 apply qf (decide_eq_false hb6);refine aK 0 kq kq ?_;apply ac;apply ac;apply au;apply ab;refine zZ (fun _=>[]) (fun _=>[a.bx,b.bx]) ?_ ?_;apply zV 1;apply qT;refine aJ (b:=true) (.inr rfl) kq ?_
 rotate_left
 iterate 16 kernel_rfl
 refine qt (x:=(((a.kids.length:Nat):Int) != ((b.kids.length:Nat):Int))) (bne_iff_ne.2 hb5) ?_ ?_;apply zV 1;apply qT;apply aR;refine aJ (b:=false) (.inr rfl) kq ?_
 rotate_left
 iterate 11 kernel_rfl
 refine zm [34,35,36] (x:=((a.n) != (b.n))) (bne_iff_ne.2 hb4) ?_ ?_;refine zR 8 (fun _=>[(2,.ptr 0 0),(3,.ptr 1 0),(44,.bool true)]) (fun _=>[a.bx,b.bx]) ?_ ?_;refine cJ kq kq ?_;apply zV 1;apply qT;apply aR;refine aJ (b:=false) (.inr rfl) kq ?_
 rotate_left
 iterate 6 kernel_rfl
 refine zm [27,28,29] (x:=(!(a.name==b.name))) (congrArg not (beq_eq_false_iff_ne.2 hb3)) ?_ ?_;refine zR 15 (fun _=>[(2,.ptr 0 0),(3,.ptr 1 0),(44,.bool true)]) (fun _=>[a.bx,b.bx]) ?_ ?_;refine cJ kq kq ?_;apply zV 1;apply qT;apply aR;refine aJ (b:=false) (.inr rfl) kq ?_
 rotate_left
 iterate 6 kernel_rfl
 refine zm [20,21,22] (x:=((a.kind) != (b.kind))) (bne_iff_ne.2 hb2) ?_ ?_;refine zR 22 (fun _=>[(2,.ptr 0 0),(3,.ptr 1 0),(44,.bool true)]) (fun _=>[a.bx,b.bx]) ?_ ?_;refine cJ kq kq ?_;apply zV 1;apply qT;apply aR;refine aJ (b:=false) (.inr rfl) kq ?_
 rotate_left
 iterate 6 kernel_rfl
 refine zm [14,15] (x:=(!(a.names==b.names))) (congrArg not (Bool.eq_false_iff.2 hb1)) ?_ ?_;refine zR 29 (fun _=>[(2,.ptr 0 0),(3,.ptr 1 0),(44,.bool true)]) (fun _=>[a.bx,b.bx]) ?_ ?_;refine cJ kq kq ?_;apply zV 1;apply qT;apply aR;refine aJ (b:=false) (.inr rfl) kq ?_
 rotate_left
 iterate 10 kernel_rfl
 all_goals
  refine IV ?_
  first|(simp only [dg Ty.beq a.kids b.kids oq,Bool.and_false];done)|(rw [cd Ty.beq Ty.zero Ty.zero a.kids b.kids oq (fun i hi=>ha i oq)];simp_all;done)|(rw [dX Ty.beq Ty.zero Ty.zero a.kids b.kids k oq oq (Bool.eq_false_iff.2 aq)];simp;done)|(simp_all;done)
end Go.Proofs.YtcpklndelobigaaGreatDoor
