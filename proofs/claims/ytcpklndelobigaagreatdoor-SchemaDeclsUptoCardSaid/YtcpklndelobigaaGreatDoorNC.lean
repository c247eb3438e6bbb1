/- all over lists, with any closure that captures no, one or two boxes. Condition: the closure answers for every element. -/
import Derived.Test.YtcpklndelobigaaGreatDoorE4
import Derived.Test.YtcpklndelobigaaGreatDoorQC
set_option linter.all false
namespace Go.Proofs.YtcpklndelobigaaGreatDoor
open Go.Proofs.YtcpklndelobigaaGreatDoor.Abs
set_option maxRecDepth 20000
set_option maxHeartbeats 4000000
theorem o8 {α:Type} (p:α->Bool) (l:List α):(!(l.any fun x=>!p x))=l.all p:=by
 induction l with
 | nil=>rfl
 | cons x l ih=>rw [List.any_cons,List.all_cons,Bool.not_or,ih,Bool.not_not]
abbrev yK (l:List (Tb)) (g:Nat) (p:(Tb)->Bool):Prop:=(∀ x∈l,ae cx g [x.v] (.bool (p x)))/\l.length<1000000000
abbrev bL (g:Nat):List am:=[.box [.fn (.func g) [] []]]
abbrev Ek :=mT [(2,.ptr 1 0)] [0]
theorem Lv (l:List (Tb)) (g:Nat) (p:(Tb)->Bool) (x:Tb) (hx:x∈l) (hy:yK l g p):av cx 103 [Tb.v x,.ptr 0 0] (bL g) (fun v h=>v=(.bool (!(p x)))/\h=(bL g)):=by
 have ⟨hg,hn⟩:=hy;refine fI 8 1 [(ResultVar.tmp 3)] Tryz.func103 kq ?_;refine zZ (fun _=>[(0,Tb.v x),(1,.ptr 0 0)]) (fun _=>(bL g)) ?_ ?_;apply zW 2 Ek (mH [] [.box (Tb.cs x)]);apply zV 2;refine qP (hg x hx) bk bk bk kq ?_;refine zR 2 (fun _=>[(3,.bool (!(p x)))]) (fun _=>[.box [.fn (.func g) [] []],.box (Tb.cs x)]) ?_ ?_;refine aJ kq ?_;refine aO (l:=[.bool (!(p x))]) (.inr rfl) kq (by rfl) aQ aQ ?_ ?_;refine Eq.trans (b:=(bL g)) kq ?_
 . rfl
 . simp [am.belO,aC,aa.bel,Ty.v,Ex.v,Ct.v,Co.v,Rf.v,Sm.v,Tb.v_cs,Sc.v,Md.v,Pb.v,Ls.v,-List.map_take,-List.map_drop,-List.map_append]
 iterate 4 kernel_rfl
abbrev fw :=(ResultVar.tmp 4)
abbrev yp :List (Nat×aa):=[(4,.int .i64 (-1))]
abbrev xx (l:List (Tb)):Nat×aa:=(0,.imm (l.map Tb.v))
theorem cF {p:Prop} (h:p:=by simp [am.belO,aC,aa.bel,Ty.v,Ex.v,Ct.v,Co.v,Rf.v,Sm.v,Tb.v_cs,Sc.v,Md.v,Pb.v,Ls.v,-List.map_take,-List.map_drop,-List.map_append]):p:=h
theorem L3 {p:Prop} (h:p:=by show aa.int _ _=aa.int _ _;first|rw [<- cO (p:=(fun x=>!p x)) Tb.zero (l:=l) (k:=k) oq ha (by simp_all)]|rw [<- cR (p:=(fun x=>!p x)) Tb.zero (l:=l) (fun i hi=>ha i oq)]):p:=h
theorem rA {p:Prop} (h:p:=by exact ⟨Nat.zero_le _,fun i h=>absurd h (Nat.not_lt_zero i)⟩):p:=h
abbrev w0 (k:Nat):List aa:=[.int .i64 ((k:Nat):Int)]
abbrev xj :List aa:=[.int .i64 (-1)]
abbrev fY (l:List (Tb))(k:Nat):=l.getD k Tb.zero
abbrev ot :=mT [] [5,16]
abbrev o5 (k:Nat):=mU [(5,nI k)]
theorem LP (l:List (Tb)) (g:Nat) (p:(Tb)->Bool) (hy:yK l g p):av cx 82 [.imm (l.map Tb.v),.fn (.func 103) [] [.ptr 0 0]] (bL g) (fun v h=>v=(.int .i64 (bF (fun x=>!p x) l))/\h=(bL g)):=by
 have ⟨hg,hn⟩:=hy;refine fI 19 1 [fw] Tryz.func82 kq ?_;refine zZ (fun _=>[(xx l),(1,.fn (.func 103) [] [.ptr 0 0])]) (fun _=>(bL g)) ?_ ?_;apply zW 1 id id;apply ai;apply zV 1;refine qy (aj (l:=l) (enc:=Tb.v) kq cD) ?_ ?_ ?_;apply zR 1 (mU [(7,nI l.length),(8,.int .i64 0)]) id;apply qB 0;refine aT (σ:=Nat) (fun k=>[(xx l),(1,.fn (.func 103) [] [.ptr 0 0]),(7,.int .i64 ((l.length:Nat):Int)),(8,nI k)]) (fun k=>(bL g)) (fun k=>k<=l.length/\∀ i,i<k->¬ (!p (l.getD i Tb.zero))=true) (fun k=>l.length - k) 0 kq rA (fg kq kq aA cF) ?_;rintro k ⟨hk,ha⟩;apply zW 1 (mU [(9,.bool (decide (((k:Nat):Int)<((l.length:Nat):Int))))]) id;apply ai;by_cases hb1:((k:Nat):Int)<((l.length:Nat):Int);apply qt (decide_eq_true hb1);apply qK;apply zZ (mT [] [9]) id;apply ai;apply qB 1;apply zW 2 (o5 k) id;apply zV 3;refine qy ((au (k:=.i64) (l:=l) (enc:=Tb.v) (i:=((k:Nat):Int)) Tb.zero kq cD d3 (fun _=>rfl) oq oq).trans (congrArg (fun cs=>some (aa.pimm cs 0,_)) (cL (fY l k)))) ?_ ?_ ?_;apply qr 1;refine qA (hs:=(bL g)) (hs':=(bL g)) (Lv l g p (fY l k) (aH _ _ _ oq) hy) cF cF rfl cF cF kq ?_;refine zN (mU [(16,.bool (!(p (fY l k))))]) id ?_ ?_;by_cases hb2:(p (fY l k))=true;refine qf (x:=(!(p (fY l k)))) (congrArg not (hb2)) ?_ ?_;refine qk ?_ ?_;refine ag ?_;apply ab;apply zZ ot id;apply qo;refine qy (az (a:=((k:Nat):Int)) (b:=1) kq oq oq) ?_ ?_ ?_;apply qr 1;apply qe;refine ab ⟨k+1,?_,?_,(fg kq kq aA cF)⟩
 . omega
 . refine ⟨by omega,fun i hi=>?_⟩;rcases Nat.lt_succ_iff_lt_or_eq.1 hi with h|h
   . exact ha i h
   . subst h;simp_all
 iterate 8 kernel_rfl
 refine qt (x:=(!(p (fY l k)))) (congrArg not (Bool.eq_false_iff.2 hb2)) ?_ ?_;refine zW 2 (fun _=>[(4,nI k)]) (fun _=>(bL g)) ?_ ?_;refine aJ kq ?_;apply iR;apply aR;apply aR;apply iR;apply aR;refine aO (l:=(w0 k)) (.inr rfl) kq L3 aQ aQ ?_ ?_;refine Eq.trans (b:=(bL g)) kq ?_
 . rfl
 rotate_left
 iterate 14 kernel_rfl
 apply qf (decide_eq_false hb1);refine aK 0 kq kq ?_;apply ac;apply ac;refine ao ?_;apply ab;refine zZ (fun _=>[]) id ?_ ?_;refine zW 1 (fun _=>yp) (fun _=>(bL g)) ?_ ?_;refine aJ kq ?_;refine aO (l:=xj) (.inr rfl) kq L3 aQ aQ ?_ ?_;refine Eq.trans (b:=(bL g)) kq ?_
 . rfl
 rotate_left
 iterate 14 kernel_rfl
 all_goals
  simp [am.belO,aC,aa.bel,Ty.v,Ex.v,Ct.v,Co.v,Rf.v,Sm.v,Tb.v_cs,Sc.v,Md.v,Pb.v,Ls.v,-List.map_take,-List.map_drop,-List.map_append]
theorem xk {p:Prop} (h:p:=by show aa.bool _=aa.bool _;rw [<- mh] <;> rfl):p:=h
abbrev Ep (p:(Tb)->Bool)(l:List (Tb)):=decide ((bF (fun x=>!p x) l) >= 0)
theorem Ld (l:List (Tb)) (g:Nat) (p:(Tb)->Bool) (hy:yK l g p):av cx 102 [.imm (l.map Tb.v),.fn (.func 103) [] [.ptr 0 0]] (bL g) (fun v h=>v=(.bool (l.any (fun x=>!p x)))/\h=(bL g)):=by
 have ⟨hg,hn⟩:=hy;refine fI 9 1 [fw] Tryz.func102 kq ?_;refine zZ (fun _=>[(xx l),(1,.fn (.func 103) [] [.ptr 0 0])]) (fun _=>(bL g)) ?_ ?_;apply zW 1 id id;apply zV 2;refine qA (LP l g p hy) cF cF rfl cF cF kq ?_;refine zR 2 (fun _=>[(4,.bool (Ep p l))]) (fun _=>(bL g)) ?_ ?_;refine aJ kq ?_;refine aO (l:=[.bool (Ep p l)]) (.inr rfl) kq xk aQ aQ ?_ ?_;refine Eq.trans (b:=(bL g)) kq ?_
 . rfl
 . simp [am.belO,aC,aa.bel,Ty.v,Ex.v,Ct.v,Co.v,Rf.v,Sm.v,Tb.v_cs,Sc.v,Md.v,Pb.v,Ls.v,-List.map_take,-List.map_drop,-List.map_append]
 iterate 4 kernel_rfl
theorem sf (l:List (Tb)) (g:Nat) (p:(Tb)->Bool) (hy:yK l g p):ae cx 47 [.imm (l.map Tb.v),.fn (.func g) [] []] (.bool (l.all p)):=by
 have ⟨hg,hn⟩:=hy;refine fI 9 0 [(ResultVar.tmp 4)] Tryz.func47 kq ?_;refine zZ (fun _=>[(0,.imm (l.map Tb.v)),(1,.fn (.func g) [] [])]) (fun _=>[]) ?_ ?_;refine zW 2 (fun _=>[(0,.imm (l.map Tb.v)),(3,.ptr 0 0)]) (fun _=>(bL g)) ?_ ?_;apply zV 2;refine qA (Ld l g p hy) cF cF rfl cF cF kq ?_;refine qX 2 ?_ ?_;refine aD (b:=(!(l.any (fun x=>!p x)))) (.inr rfl) kq ?_
 . exact o8 p l
 iterate 4 kernel_rfl
abbrev yr (l:List (Tb)) (g:Nat) (p:(Tb)->Bool) (cs0:List aa):Prop:=(∀ x∈l,av cx g [x.v,.ptr 0 0] [.box cs0] (fun v h=>v=.bool (p x)/\h=[.box cs0]))/\(∀ n,aC (n+1) cs0=true)/\l.length<1000000000
abbrev oe :=(ResultVar.tmp 3)
theorem ew {p:Prop} (h:p:=by simp [am.belO,aC,aa.bel,Ty.v,Ex.v,Ct.v,Co.v,Rf.v,Sm.v,Tb.v_cs,Sc.v,Md.v,Pb.v,Ls.v,-List.map_take,-List.map_drop,-List.map_append,hz0]):p:=h
abbrev dV (cs0:List aa)(g:Nat):List am:=[.box cs0,.box [.fn (.func g) [] [.ptr 0 0]]]
abbrev DI (g:Nat):List aa:=[.fn (.func g) [] [.ptr 0 0]]
theorem K9 (l:List (Tb)) (g:Nat) (p:(Tb)->Bool) (cs0:List aa) (x:Tb) (hx:x∈l) (hy:yr l g p cs0):av cx 103 [Tb.v x,.ptr 1 0] (dV cs0 g) (fun v h=>v=(.bool (!(p x)))/\h=(dV cs0 g)):=by
 have ⟨hg,hz0,hn⟩:=hy;refine fI 8 2 [oe] Tryz.func103 kq ?_;refine zZ (fun _=>[(0,Tb.v x),(1,.ptr 1 0)]) (fun _=>(dV cs0 g)) ?_ ?_;apply zW 2 (mT [(2,.ptr 2 0)] [0]) (mH [] [.box (Tb.cs x)]);apply zV 2;refine qA (hg x hx) ew ew rfl ew ew kq ?_;refine zR 2 (fun _=>[(3,.bool (!(p x)))]) (fun _=>[.box cs0,.box (DI g),.box (Tb.cs x)]) ?_ ?_;refine aJ kq ?_;refine aO (l:=[.bool (!(p x))]) (.inr rfl) kq (by rfl) aQ aQ ?_ ?_;refine Eq.trans (b:=(dV cs0 g)) kq ?_
 . rfl
 . simp [am.belO,aC,aa.bel,Ty.v,Ex.v,Ct.v,Co.v,Rf.v,Sm.v,Tb.v_cs,Sc.v,Md.v,Pb.v,Ls.v,-List.map_take,-List.map_drop,-List.map_append,hz0]
 iterate 4 kernel_rfl
theorem Oh (l:List (Tb)) (g:Nat) (p:(Tb)->Bool) (cs0:List aa) (hy:yr l g p cs0):av cx 82 [.imm (l.map Tb.v),.fn (.func 103) [] [.ptr 1 0]] (dV cs0 g) (fun v h=>v=(.int .i64 (bF (fun x=>!p x) l))/\h=(dV cs0 g)):=by
 have ⟨hg,hz0,hn⟩:=hy;refine fI 19 2 [fw] Tryz.func82 kq ?_;refine zZ (fun _=>[(xx l),(1,.fn (.func 103) [] [.ptr 1 0])]) (fun _=>(dV cs0 g)) ?_ ?_;apply zW 1 id id;apply ai;apply zV 1;refine qy (aj (l:=l) (enc:=Tb.v) kq cD) ?_ ?_ ?_;apply zR 1 (mU [(7,nI l.length),(8,.int .i64 0)]) id;apply qB 0;refine aT (σ:=Nat) (fun k=>[(xx l),(1,.fn (.func 103) [] [.ptr 1 0]),(7,.int .i64 ((l.length:Nat):Int)),(8,nI k)]) (fun k=>(dV cs0 g)) (fun k=>k<=l.length/\∀ i,i<k->¬ (!p (l.getD i Tb.zero))=true) (fun k=>l.length - k) 0 kq rA (fg kq kq aA ew) ?_;rintro k ⟨hk,ha⟩;apply zW 1 (mU [(9,.bool (decide (((k:Nat):Int)<((l.length:Nat):Int))))]) id;apply ai;by_cases hb1:((k:Nat):Int)<((l.length:Nat):Int);apply qt (decide_eq_true hb1);apply qK;apply zZ (mT [] [9]) id;apply ai;apply qB 1;apply zW 2 (o5 k) id;apply zV 3;refine qy ((au (k:=.i64) (l:=l) (enc:=Tb.v) (i:=((k:Nat):Int)) Tb.zero kq cD d3 (fun _=>rfl) oq oq).trans (congrArg (fun cs=>some (aa.pimm cs 0,_)) (cL (fY l k)))) ?_ ?_ ?_;apply qr 1;refine qA (hs:=(dV cs0 g)) (hs':=(dV cs0 g)) (K9 l g p cs0 (fY l k) (aH _ _ _ oq) hy) ew ew rfl ew ew kq ?_;refine zN (mU [(16,.bool (!(p (fY l k))))]) id ?_ ?_;by_cases hb2:(p (fY l k))=true;refine qf (x:=(!(p (fY l k)))) (congrArg not (hb2)) ?_ ?_;refine qk ?_ ?_;refine ag ?_;apply ab;apply zZ ot id;apply qo;refine qy (az (a:=((k:Nat):Int)) (b:=1) kq oq oq) ?_ ?_ ?_;apply qr 1;apply qe;refine ab ⟨k+1,?_,?_,(fg kq kq aA ew)⟩
 . omega
 . refine ⟨by omega,fun i hi=>?_⟩;rcases Nat.lt_succ_iff_lt_or_eq.1 hi with h|h
   . exact ha i h
   . subst h;simp_all
 iterate 8 kernel_rfl
 refine qt (x:=(!(p (fY l k)))) (congrArg not (Bool.eq_false_iff.2 hb2)) ?_ ?_;refine zW 2 (fun _=>[(4,nI k)]) (fun _=>(dV cs0 g)) ?_ ?_;refine aJ kq ?_;apply iR;apply aR;apply aR;apply iR;apply aR;refine aO (l:=(w0 k)) (.inr rfl) kq L3 aQ aQ ?_ ?_;refine Eq.trans (b:=(dV cs0 g)) kq ?_
 . rfl
 rotate_left
 iterate 14 kernel_rfl
 apply qf (decide_eq_false hb1);refine aK 0 kq kq ?_;apply ac;apply ac;refine ao ?_;apply ab;refine zZ (fun _=>[]) id ?_ ?_;refine zW 1 (fun _=>yp) (fun _=>(dV cs0 g)) ?_ ?_;refine aJ kq ?_;refine aO (l:=xj) (.inr rfl) kq L3 aQ aQ ?_ ?_;refine Eq.trans (b:=(dV cs0 g)) kq ?_
 . rfl
 rotate_left
 iterate 14 kernel_rfl
 all_goals
  simp [am.belO,aC,aa.bel,Ty.v,Ex.v,Ct.v,Co.v,Rf.v,Sm.v,Tb.v_cs,Sc.v,Md.v,Pb.v,Ls.v,-List.map_take,-List.map_drop,-List.map_append,hz0]
theorem Nu (l:List (Tb)) (g:Nat) (p:(Tb)->Bool) (cs0:List aa) (hy:yr l g p cs0):av cx 102 [.imm (l.map Tb.v),.fn (.func 103) [] [.ptr 1 0]] (dV cs0 g) (fun v h=>v=(.bool (l.any (fun x=>!p x)))/\h=(dV cs0 g)):=by
 have ⟨hg,hz0,hn⟩:=hy;refine fI 9 2 [fw] Tryz.func102 kq ?_;refine zZ (fun _=>[(xx l),(1,.fn (.func 103) [] [.ptr 1 0])]) (fun _=>(dV cs0 g)) ?_ ?_;apply zW 1 id id;apply zV 2;refine qA (Oh l g p cs0 hy) ew ew rfl ew ew kq ?_;refine zR 2 (fun _=>[(4,.bool (Ep p l))]) (fun _=>(dV cs0 g)) ?_ ?_;refine aJ kq ?_;refine aO (l:=[.bool (Ep p l)]) (.inr rfl) kq xk aQ aQ ?_ ?_;refine Eq.trans (b:=(dV cs0 g)) kq ?_
 . rfl
 . simp [am.belO,aC,aa.bel,Ty.v,Ex.v,Ct.v,Co.v,Rf.v,Sm.v,Tb.v_cs,Sc.v,Md.v,Pb.v,Ls.v,-List.map_take,-List.map_drop,-List.map_append,hz0]
 iterate 4 kernel_rfl
theorem Jv {p:Prop} (h:p:=by show aa.bool _=aa.bool _;rw [<- o8] <;> rfl):p:=h
theorem xV (l:List (Tb)) (g:Nat) (p:(Tb)->Bool) (cs0:List aa) (hy:yr l g p cs0):av cx 47 [.imm (l.map Tb.v),.fn (.func g) [] [.ptr 0 0]] [.box cs0] (fun v h=>v=(.bool (l.all p))/\h=[.box cs0]):=by
 have ⟨hg,hz0,hn⟩:=hy;refine fI 9 1 [fw] Tryz.func47 kq ?_;refine zZ (fun _=>[(xx l),(1,.fn (.func g) [] [.ptr 0 0])]) (fun _=>[.box cs0]) ?_ ?_;apply zW 2 (mT [(3,.ptr 1 0)] [1]) (mH [] [.box (DI g)]);apply zV 2;refine qA (Nu l g p cs0 hy) ew ew rfl ew ew kq ?_;refine zR 2 (fun _=>[(4,.bool (!(l.any (fun x=>!p x))))]) (fun _=>(dV cs0 g)) ?_ ?_;refine aJ kq ?_;refine aO (l:=[.bool (!(l.any (fun x=>!p x)))]) (.inr rfl) kq Jv aQ aQ ?_ ?_;refine Eq.trans (b:=[.box cs0]) kq ?_
 . rfl
 . simp [am.belO,aC,aa.bel,Ty.v,Ex.v,Ct.v,Co.v,Rf.v,Sm.v,Tb.v_cs,Sc.v,Md.v,Pb.v,Ls.v,-List.map_take,-List.map_drop,-List.map_append,hz0]
 iterate 4 kernel_rfl
abbrev xA (l:List (Sm)) (g:Nat) (p:(Sm)->Bool):Prop:=(∀ x∈l,ae cx g [x.v] (.bool (p x)))/\l.length<1000000000
theorem N6 (l:List (Sm)) (g:Nat) (p:(Sm)->Bool) (x:Sm) (hx:x∈l) (hy:xA l g p):av cx 174 [Sm.v x,.ptr 0 0] (bL g) (fun v h=>v=(.bool (!(p x)))/\h=(bL g)):=by
 have ⟨hg,hn⟩:=hy;refine fI 8 1 [(ResultVar.tmp 3)] Tryz.func174 kq ?_;refine zZ (fun _=>[(0,Sm.v x),(1,.ptr 0 0)]) (fun _=>(bL g)) ?_ ?_;apply zW 2 Ek (mH [] [.box [.str x.name,.imm (x.ctors.map Ct.v)]]);apply zV 2;refine qP (hg x hx) bk bk bk kq ?_;refine zR 2 (fun _=>[(3,.bool (!(p x)))]) (fun _=>[.box [.fn (.func g) [] []],.box [.str x.name,.imm (x.ctors.map Ct.v)]]) ?_ ?_;refine aJ kq ?_;refine aO (l:=[.bool (!(p x))]) (.inr rfl) kq (by rfl) aQ aQ ?_ ?_;refine Eq.trans (b:=(bL g)) kq ?_
 . rfl
 . simp [am.belO,aC,aa.bel,Ty.v,Ex.v,Ct.v,Co.v,Rf.v,Sm.v,Tb.v_cs,Sc.v,Md.v,Pb.v,Ls.v,-List.map_take,-List.map_drop,-List.map_append]
 iterate 4 kernel_rfl
theorem TI {p:Prop} (h:p:=by show aa.int _ _=aa.int _ _;first|rw [<- cO (p:=(fun x=>!p x)) Sm.zero (l:=l) (k:=k) oq ha (by simp_all)]|rw [<- cR (p:=(fun x=>!p x)) Sm.zero (l:=l) (fun i hi=>ha i oq)]):p:=h
theorem Mk (l:List (Sm)) (g:Nat) (p:(Sm)->Bool) (hy:xA l g p):av cx 187 [.imm (l.map Sm.v),.fn (.func 174) [] [.ptr 0 0]] (bL g) (fun v h=>v=(.int .i64 (bF (fun x=>!p x) l))/\h=(bL g)):=by
 have ⟨hg,hn⟩:=hy;refine fI 19 1 [fw] Tryz.func187 kq ?_;refine zZ (fun _=>[(0,.imm (l.map Sm.v)),(1,.fn (.func 174) [] [.ptr 0 0])]) (fun _=>(bL g)) ?_ ?_;apply zW 1 id id;apply ai;apply zV 1;refine qy (aj (l:=l) (enc:=Sm.v) kq di) ?_ ?_ ?_;apply zR 1 (mU [(7,nI l.length),(8,.int .i64 0)]) id;apply qB 0;refine aT (σ:=Nat) (fun k=>[(0,.imm (l.map Sm.v)),(1,.fn (.func 174) [] [.ptr 0 0]),(7,.int .i64 ((l.length:Nat):Int)),(8,.int .i64 ((k:Nat):Int))]) (fun k=>(bL g)) (fun k=>k<=l.length/\∀ i,i<k->¬ (!p (l.getD i Sm.zero))=true) (fun k=>l.length - k) 0 kq rA (fg kq kq aA cF) ?_;rintro k ⟨hk,ha⟩;apply zW 1 (mU [(9,.bool (decide (((k:Nat):Int)<((l.length:Nat):Int))))]) id;apply ai;by_cases hb1:((k:Nat):Int)<((l.length:Nat):Int);apply qt (decide_eq_true hb1);apply qK;apply zZ (mT [] [9]) id;apply ai;apply qB 1;apply zW 2 (o5 k) id;apply zV 3;refine qy ((au (k:=.i64) (l:=l) (enc:=Sm.v) (i:=((k:Nat):Int)) Sm.zero kq di e9 (fun _=>rfl) oq oq).trans (congrArg (fun cs=>some (aa.pimm cs 0,_)) (cr (l.getD k Sm.zero)))) ?_ ?_ ?_;apply qr 1;refine qA (hs:=(bL g)) (hs':=(bL g)) (N6 l g p (l.getD k Sm.zero) (aH _ _ _ oq) hy) cF cF rfl cF cF kq ?_;refine zN (mU [(16,.bool (!(p (l.getD k Sm.zero))))]) id ?_ ?_;by_cases hb2:(p (l.getD k Sm.zero))=true;refine qf (x:=(!(p (l.getD k Sm.zero)))) (congrArg not (hb2)) ?_ ?_;refine qk ?_ ?_;refine ag ?_;apply ab;apply zZ ot id;apply qo;refine qy (az (a:=((k:Nat):Int)) (b:=1) kq oq oq) ?_ ?_ ?_;apply qr 1;apply qe;refine ab ⟨k+1,?_,?_,(fg kq kq aA cF)⟩
 . omega
 . refine ⟨by omega,fun i hi=>?_⟩;rcases Nat.lt_succ_iff_lt_or_eq.1 hi with h|h
   . exact ha i h
   . subst h;simp_all
 iterate 8 kernel_rfl
 refine qt (x:=(!(p (l.getD k Sm.zero)))) (congrArg not (Bool.eq_false_iff.2 hb2)) ?_ ?_;refine zW 2 (fun _=>[(4,nI k)]) (fun _=>(bL g)) ?_ ?_;refine aJ kq ?_;apply iR;apply aR;apply aR;apply iR;apply aR;refine aO (l:=(w0 k)) (.inr rfl) kq TI aQ aQ ?_ ?_;refine Eq.trans (b:=(bL g)) kq ?_
 . rfl
 rotate_left
 iterate 14 kernel_rfl
 apply qf (decide_eq_false hb1);refine aK 0 kq kq ?_;apply ac;apply ac;refine ao ?_;apply ab;refine zZ (fun _=>[]) id ?_ ?_;refine zW 1 (fun _=>yp) (fun _=>(bL g)) ?_ ?_;refine aJ kq ?_;refine aO (l:=xj) (.inr rfl) kq TI aQ aQ ?_ ?_;refine Eq.trans (b:=(bL g)) kq ?_
 . rfl
 rotate_left
 iterate 14 kernel_rfl
 all_goals
  simp [am.belO,aC,aa.bel,Ty.v,Ex.v,Ct.v,Co.v,Rf.v,Sm.v,Tb.v_cs,Sc.v,Md.v,Pb.v,Ls.v,-List.map_take,-List.map_drop,-List.map_append]
theorem ME (l:List (Sm)) (g:Nat) (p:(Sm)->Bool) (hy:xA l g p):av cx 173 [.imm (l.map Sm.v),.fn (.func 174) [] [.ptr 0 0]] (bL g) (fun v h=>v=(.bool (l.any (fun x=>!p x)))/\h=(bL g)):=by
 have ⟨hg,hn⟩:=hy;refine fI 9 1 [fw] Tryz.func173 kq ?_;refine zZ (fun _=>[(0,.imm (l.map Sm.v)),(1,.fn (.func 174) [] [.ptr 0 0])]) (fun _=>(bL g)) ?_ ?_;apply zW 1 id id;apply zV 2;refine qA (Mk l g p hy) cF cF rfl cF cF kq ?_;refine zR 2 (fun _=>[(4,.bool (decide ((bF (fun x=>!p x) l) >= 0)))]) (fun _=>(bL g)) ?_ ?_;refine aJ kq ?_;refine aO (l:=[.bool (decide ((bF (fun x=>!p x) l) >= 0))]) (.inr rfl) kq xk aQ aQ ?_ ?_;refine Eq.trans (b:=(bL g)) kq ?_
 . rfl
 . simp [am.belO,aC,aa.bel,Ty.v,Ex.v,Ct.v,Co.v,Rf.v,Sm.v,Tb.v_cs,Sc.v,Md.v,Pb.v,Ls.v,-List.map_take,-List.map_drop,-List.map_append]
 iterate 4 kernel_rfl
theorem EY (l:List (Sm)) (g:Nat) (p:(Sm)->Bool) (hy:xA l g p):ae cx 104 [.imm (l.map Sm.v),.fn (.func g) [] []] (.bool (l.all p)):=by
 have ⟨hg,hn⟩:=hy;refine fI 9 0 [(ResultVar.tmp 4)] Tryz.func104 kq ?_;refine zZ (fun _=>[(0,.imm (l.map Sm.v)),(1,.fn (.func g) [] [])]) (fun _=>[]) ?_ ?_;refine zW 2 (fun _=>[(0,.imm (l.map Sm.v)),(3,.ptr 0 0)]) (fun _=>(bL g)) ?_ ?_;apply zV 2;refine qA (ME l g p hy) cF cF rfl cF cF kq ?_;refine qX 2 ?_ ?_;refine aD (b:=(!(l.any (fun x=>!p x)))) (.inr rfl) kq ?_
 . exact o8 p l
 iterate 4 kernel_rfl
abbrev xl (l:List (Ct)) (g:Nat) (p:(Ct)->Bool):Prop:=(∀ x∈l,ae cx g [x.v] (.bool (p x)))/\l.length<1000000000
abbrev TU (x:Ct):List aa:=[.str x.name,.bool (x.has),.int .i64 (x.arg.kind),.str x.arg.name,.int .i64 (x.arg.n),.imm (x.arg.names.map aa.str),.imm (x.arg.kids.map Ty.enc)]
theorem Nt (l:List (Ct)) (g:Nat) (p:(Ct)->Bool) (x:Ct) (hx:x∈l) (hy:xl l g p):av cx 176 [Ct.v x,.ptr 0 0] (bL g) (fun v h=>v=(.bool (!(p x)))/\h=(bL g)):=by
 have ⟨hg,hn⟩:=hy;refine fI 8 1 [oe] Tryz.func176 kq ?_;refine zZ (fun _=>[(0,Ct.v x),(1,.ptr 0 0)]) (fun _=>(bL g)) ?_ ?_;apply zW 2 Ek (mH [] [.box (TU x)]);apply zV 2;refine qP (hg x hx) bk bk bk kq ?_;refine zR 2 (fun _=>[(3,.bool (!(p x)))]) (fun _=>[.box [.fn (.func g) [] []],.box (TU x)]) ?_ ?_;refine aJ kq ?_;refine aO (l:=[.bool (!(p x))]) (.inr rfl) kq (by rfl) aQ aQ ?_ ?_;refine Eq.trans (b:=(bL g)) kq ?_
 . rfl
 . simp [am.belO,aC,aa.bel,Ty.v,Ex.v,Ct.v,Co.v,Rf.v,Sm.v,Tb.v_cs,Sc.v,Md.v,Pb.v,Ls.v,-List.map_take,-List.map_drop,-List.map_append]
 iterate 4 kernel_rfl
theorem SQ {p:Prop} (h:p:=by show aa.int _ _=aa.int _ _;first|rw [<- cO (p:=(fun x=>!p x)) Ct.zero (l:=l) (k:=k) oq ha (by simp_all)]|rw [<- cR (p:=(fun x=>!p x)) Ct.zero (l:=l) (fun i hi=>ha i oq)]):p:=h
theorem K4 (l:List (Ct)) (g:Nat) (p:(Ct)->Bool) (hy:xl l g p):av cx 228 [.imm (l.map Ct.v),.fn (.func 176) [] [.ptr 0 0]] (bL g) (fun v h=>v=(.int .i64 (bF (fun x=>!p x) l))/\h=(bL g)):=by
 have ⟨hg,hn⟩:=hy;refine fI 19 1 [fw] Tryz.func228 kq ?_;refine zZ (fun _=>[(0,.imm (l.map Ct.v)),(1,.fn (.func 176) [] [.ptr 0 0])]) (fun _=>(bL g)) ?_ ?_;apply zW 1 id id;apply ai;apply zV 1;refine qy (aj (l:=l) (enc:=Ct.v) kq gM) ?_ ?_ ?_;apply zR 1 (mU [(7,nI l.length),(8,.int .i64 0)]) id;apply qB 0;refine aT (σ:=Nat) (fun k=>[(0,.imm (l.map Ct.v)),(1,.fn (.func 176) [] [.ptr 0 0]),(7,.int .i64 ((l.length:Nat):Int)),(8,.int .i64 ((k:Nat):Int))]) (fun k=>(bL g)) (fun k=>k<=l.length/\∀ i,i<k->¬ (!p (l.getD i Ct.zero))=true) (fun k=>l.length - k) 0 kq rA (fg kq kq aA cF) ?_;rintro k ⟨hk,ha⟩;apply zW 1 (mU [(9,.bool (decide (((k:Nat):Int)<((l.length:Nat):Int))))]) id;apply ai;by_cases hb1:((k:Nat):Int)<((l.length:Nat):Int);apply qt (decide_eq_true hb1);apply qK;apply zZ (mT [] [9]) id;apply ai;apply qB 1;apply zW 2 (o5 k) id;apply zV 3;refine qy ((au (k:=.i64) (l:=l) (enc:=Ct.v) (i:=((k:Nat):Int)) Ct.zero kq gM mn (fun _=>rfl) oq oq).trans (congrArg (fun cs=>some (aa.pimm cs 0,_)) (fW (l.getD k Ct.zero)))) ?_ ?_ ?_;apply qr 1;refine qA (hs:=(bL g)) (hs':=(bL g)) (Nt l g p (l.getD k Ct.zero) (aH _ _ _ oq) hy) cF cF rfl cF cF kq ?_;refine zN (mU [(16,.bool (!(p (l.getD k Ct.zero))))]) id ?_ ?_;by_cases hb2:(p (l.getD k Ct.zero))=true;refine qf (x:=(!(p (l.getD k Ct.zero)))) (congrArg not (hb2)) ?_ ?_;refine qk ?_ ?_;refine ag ?_;apply ab;apply zZ ot id;apply qo;refine qy (az (a:=((k:Nat):Int)) (b:=1) kq oq oq) ?_ ?_ ?_;apply qr 1;apply qe;refine ab ⟨k+1,?_,?_,(fg kq kq aA cF)⟩
 . omega
 . refine ⟨by omega,fun i hi=>?_⟩;rcases Nat.lt_succ_iff_lt_or_eq.1 hi with h|h
   . exact ha i h
   . subst h;simp_all
 iterate 8 kernel_rfl
 refine qt (x:=(!(p (l.getD k Ct.zero)))) (congrArg not (Bool.eq_false_iff.2 hb2)) ?_ ?_;refine zW 2 (fun _=>[(4,nI k)]) (fun _=>(bL g)) ?_ ?_;refine aJ kq ?_;apply iR;apply aR;apply aR;apply iR;apply aR;refine aO (l:=(w0 k)) (.inr rfl) kq SQ aQ aQ ?_ ?_;refine Eq.trans (b:=(bL g)) kq ?_
 . rfl
 rotate_left
 iterate 14 kernel_rfl
 apply qf (decide_eq_false hb1);refine aK 0 kq kq ?_;apply ac;apply ac;refine ao ?_;apply ab;refine zZ (fun _=>[]) id ?_ ?_;refine zW 1 (fun _=>yp) (fun _=>(bL g)) ?_ ?_;refine aJ kq ?_;refine aO (l:=xj) (.inr rfl) kq SQ aQ aQ ?_ ?_;refine Eq.trans (b:=(bL g)) kq ?_
 . rfl
 rotate_left
 iterate 14 kernel_rfl
 all_goals
  simp [am.belO,aC,aa.bel,Ty.v,Ex.v,Ct.v,Co.v,Rf.v,Sm.v,Tb.v_cs,Sc.v,Md.v,Pb.v,Ls.v,-List.map_take,-List.map_drop,-List.map_append]
theorem NW (l:List (Ct)) (g:Nat) (p:(Ct)->Bool) (hy:xl l g p):av cx 175 [.imm (l.map Ct.v),.fn (.func 176) [] [.ptr 0 0]] (bL g) (fun v h=>v=(.bool (l.any (fun x=>!p x)))/\h=(bL g)):=by
 have ⟨hg,hn⟩:=hy;refine fI 9 1 [fw] Tryz.func175 kq ?_;refine zZ (fun _=>[(0,.imm (l.map Ct.v)),(1,.fn (.func 176) [] [.ptr 0 0])]) (fun _=>(bL g)) ?_ ?_;apply zW 1 id id;apply zV 2;refine qA (K4 l g p hy) cF cF rfl cF cF kq ?_;refine zR 2 (fun _=>[(4,.bool (decide ((bF (fun x=>!p x) l) >= 0)))]) (fun _=>(bL g)) ?_ ?_;refine aJ kq ?_;refine aO (l:=[.bool (decide ((bF (fun x=>!p x) l) >= 0))]) (.inr rfl) kq xk aQ aQ ?_ ?_;refine Eq.trans (b:=(bL g)) kq ?_
 . rfl
 . simp [am.belO,aC,aa.bel,Ty.v,Ex.v,Ct.v,Co.v,Rf.v,Sm.v,Tb.v_cs,Sc.v,Md.v,Pb.v,Ls.v,-List.map_take,-List.map_drop,-List.map_append]
 iterate 4 kernel_rfl
theorem Ei (l:List (Ct)) (g:Nat) (p:(Ct)->Bool) (hy:xl l g p):ae cx 106 [.imm (l.map Ct.v),.fn (.func g) [] []] (.bool (l.all p)):=by
 have ⟨hg,hn⟩:=hy;refine fI 9 0 [(ResultVar.tmp 4)] Tryz.func106 kq ?_;refine zZ (fun _=>[(0,.imm (l.map Ct.v)),(1,.fn (.func g) [] [])]) (fun _=>[]) ?_ ?_;refine zW 2 (fun _=>[(0,.imm (l.map Ct.v)),(3,.ptr 0 0)]) (fun _=>(bL g)) ?_ ?_;apply zV 2;refine qA (NW l g p hy) cF cF rfl cF cF kq ?_;refine qX 2 ?_ ?_;refine aD (b:=(!(l.any (fun x=>!p x)))) (.inr rfl) kq ?_
 . exact o8 p l
 iterate 4 kernel_rfl
abbrev yx (l:List (Co)) (g:Nat) (p:(Co)->Bool):Prop:=(∀ x∈l,ae cx g [x.v] (.bool (p x)))/\l.length<1000000000
abbrev MK (x:Co):List aa:=[.str x.name,.int .i64 (x.type.kind),.str x.type.name,.int .i64 (x.type.n),.imm (x.type.names.map aa.str),.imm (x.type.kids.map Ty.enc)]
theorem M4 (l:List (Co)) (g:Nat) (p:(Co)->Bool) (x:Co) (hx:x∈l) (hy:yx l g p):av cx 178 [Co.v x,.ptr 0 0] (bL g) (fun v h=>v=(.bool (!(p x)))/\h=(bL g)):=by
 have ⟨hg,hn⟩:=hy;refine fI 8 1 [oe] Tryz.func178 kq ?_;refine zZ (fun _=>[(0,Co.v x),(1,.ptr 0 0)]) (fun _=>(bL g)) ?_ ?_;apply zW 2 Ek (mH [] [.box (MK x)]);apply zV 2;refine qP (hg x hx) bk bk bk kq ?_;refine zR 2 (fun _=>[(3,.bool (!(p x)))]) (fun _=>[.box [.fn (.func g) [] []],.box (MK x)]) ?_ ?_;refine aJ kq ?_;refine aO (l:=[.bool (!(p x))]) (.inr rfl) kq (by rfl) aQ aQ ?_ ?_;refine Eq.trans (b:=(bL g)) kq ?_
 . rfl
 . simp [am.belO,aC,aa.bel,Ty.v,Ex.v,Ct.v,Co.v,Rf.v,Sm.v,Tb.v_cs,Sc.v,Md.v,Pb.v,Ls.v,-List.map_take,-List.map_drop,-List.map_append]
 iterate 4 kernel_rfl
theorem Lk {p:Prop} (h:p:=by show aa.int _ _=aa.int _ _;first|rw [<- cO (p:=(fun x=>!p x)) Co.zero (l:=l) (k:=k) oq ha (by simp_all)]|rw [<- cR (p:=(fun x=>!p x)) Co.zero (l:=l) (fun i hi=>ha i oq)]):p:=h
abbrev dw (l:List (Co))(k:Nat):=l.getD k Co.zero
abbrev fi (l:List (Co)):=l.map Co.v
theorem M9 (l:List (Co)) (g:Nat) (p:(Co)->Bool) (hy:yx l g p):av cx 229 [.imm (fi l),.fn (.func 178) [] [.ptr 0 0]] (bL g) (fun v h=>v=(.int .i64 (bF (fun x=>!p x) l))/\h=(bL g)):=by
 have ⟨hg,hn⟩:=hy;refine fI 19 1 [fw] Tryz.func229 kq ?_;refine zZ (fun _=>[(0,.imm (fi l)),(1,.fn (.func 178) [] [.ptr 0 0])]) (fun _=>(bL g)) ?_ ?_;apply zW 1 id id;apply ai;apply zV 1;refine qy (aj (l:=l) (enc:=Co.v) kq em) ?_ ?_ ?_;apply zR 1 (mU [(7,nI l.length),(8,.int .i64 0)]) id;apply qB 0;refine aT (σ:=Nat) (fun k=>[(0,.imm (fi l)),(1,.fn (.func 178) [] [.ptr 0 0]),(7,.int .i64 ((l.length:Nat):Int)),(8,.int .i64 ((k:Nat):Int))]) (fun k=>(bL g)) (fun k=>k<=l.length/\∀ i,i<k->¬ (!p (l.getD i Co.zero))=true) (fun k=>l.length - k) 0 kq rA (fg kq kq aA cF) ?_;rintro k ⟨hk,ha⟩;apply zW 1 (mU [(9,.bool (decide (((k:Nat):Int)<((l.length:Nat):Int))))]) id;apply ai;by_cases hb1:((k:Nat):Int)<((l.length:Nat):Int);apply qt (decide_eq_true hb1);apply qK;apply zZ (mT [] [9]) id;apply ai;apply qB 1;apply zW 2 (o5 k) id;apply zV 3;refine qy ((au (k:=.i64) (l:=l) (enc:=Co.v) (i:=((k:Nat):Int)) Co.zero kq em j5 (fun _=>rfl) oq oq).trans (congrArg (fun cs=>some (aa.pimm cs 0,_)) (de (dw l k)))) ?_ ?_ ?_;apply qr 1;refine qA (hs:=(bL g)) (hs':=(bL g)) (M4 l g p (dw l k) (aH _ _ _ oq) hy) cF cF rfl cF cF kq ?_;refine zN (mU [(16,.bool (!(p (dw l k))))]) id ?_ ?_;by_cases hb2:(p (dw l k))=true;refine qf (x:=(!(p (dw l k)))) (congrArg not (hb2)) ?_ ?_;refine qk ?_ ?_;refine ag ?_;apply ab;apply zZ ot id;apply qo;refine qy (az (a:=((k:Nat):Int)) (b:=1) kq oq oq) ?_ ?_ ?_;apply qr 1;apply qe;refine ab ⟨k+1,?_,?_,(fg kq kq aA cF)⟩
 . omega
 . refine ⟨by omega,fun i hi=>?_⟩;rcases Nat.lt_succ_iff_lt_or_eq.1 hi with h|h
   . exact ha i h
   . subst h;simp_all
 iterate 8 kernel_rfl
 refine qt (x:=(!(p (dw l k)))) (congrArg not (Bool.eq_false_iff.2 hb2)) ?_ ?_;refine zW 2 (fun _=>[(4,nI k)]) (fun _=>(bL g)) ?_ ?_;refine aJ kq ?_;apply iR;apply aR;apply aR;apply iR;apply aR;refine aO (l:=(w0 k)) (.inr rfl) kq Lk aQ aQ ?_ ?_;refine Eq.trans (b:=(bL g)) kq ?_
 . rfl
 rotate_left
 iterate 14 kernel_rfl
 apply qf (decide_eq_false hb1);refine aK 0 kq kq ?_;apply ac;apply ac;refine ao ?_;apply ab;refine zZ (fun _=>[]) id ?_ ?_;refine zW 1 (fun _=>yp) (fun _=>(bL g)) ?_ ?_;refine aJ kq ?_;refine aO (l:=xj) (.inr rfl) kq Lk aQ aQ ?_ ?_;refine Eq.trans (b:=(bL g)) kq ?_
 . rfl
 rotate_left
 iterate 14 kernel_rfl
 all_goals
  simp [am.belO,aC,aa.bel,Ty.v,Ex.v,Ct.v,Co.v,Rf.v,Sm.v,Tb.v_cs,Sc.v,Md.v,Pb.v,Ls.v,-List.map_take,-List.map_drop,-List.map_append]
theorem Mv (l:List (Co)) (g:Nat) (p:(Co)->Bool) (hy:yx l g p):av cx 177 [.imm (fi l),.fn (.func 178) [] [.ptr 0 0]] (bL g) (fun v h=>v=(.bool (l.any (fun x=>!p x)))/\h=(bL g)):=by
 have ⟨hg,hn⟩:=hy;refine fI 9 1 [fw] Tryz.func177 kq ?_;refine zZ (fun _=>[(0,.imm (fi l)),(1,.fn (.func 178) [] [.ptr 0 0])]) (fun _=>(bL g)) ?_ ?_;apply zW 1 id id;apply zV 2;refine qA (M9 l g p hy) cF cF rfl cF cF kq ?_;refine zR 2 (fun _=>[(4,.bool (decide ((bF (fun x=>!p x) l) >= 0)))]) (fun _=>(bL g)) ?_ ?_;refine aJ kq ?_;refine aO (l:=[.bool (decide ((bF (fun x=>!p x) l) >= 0))]) (.inr rfl) kq xk aQ aQ ?_ ?_;refine Eq.trans (b:=(bL g)) kq ?_
 . rfl
 . simp [am.belO,aC,aa.bel,Ty.v,Ex.v,Ct.v,Co.v,Rf.v,Sm.v,Tb.v_cs,Sc.v,Md.v,Pb.v,Ls.v,-List.map_take,-List.map_drop,-List.map_append]
 iterate 4 kernel_rfl
theorem MN (l:List (Co)) (g:Nat) (p:(Co)->Bool) (hy:yx l g p):ae cx 110 [.imm (fi l),.fn (.func g) [] []] (.bool (l.all p)):=by
 have ⟨hg,hn⟩:=hy;refine fI 9 0 [(ResultVar.tmp 4)] Tryz.func110 kq ?_;refine zZ (fun _=>[(0,.imm (fi l)),(1,.fn (.func g) [] [])]) (fun _=>[]) ?_ ?_;refine zW 2 (fun _=>[(0,.imm (fi l)),(3,.ptr 0 0)]) (fun _=>(bL g)) ?_ ?_;apply zV 2;refine qA (Mv l g p hy) cF cF rfl cF cF kq ?_;refine qX 2 ?_ ?_;refine aD (b:=(!(l.any (fun x=>!p x)))) (.inr rfl) kq ?_
 . exact o8 p l
 iterate 4 kernel_rfl
abbrev w6 (l:List (Co)) (g:Nat) (p:(Co)->Bool) (cs0:List aa):Prop:=(∀ x∈l,av cx g [x.v,.ptr 0 0] [.box cs0] (fun v h=>v=.bool (p x)/\h=[.box cs0]))/\(∀ n,aC (n+1) cs0=true)/\l.length<1000000000
theorem MB (l:List (Co)) (g:Nat) (p:(Co)->Bool) (cs0:List aa) (x:Co) (hx:x∈l) (hy:w6 l g p cs0):av cx 178 [Co.v x,.ptr 1 0] (dV cs0 g) (fun v h=>v=(.bool (!(p x)))/\h=(dV cs0 g)):=by
 have ⟨hg,hz0,hn⟩:=hy;refine fI 8 2 [oe] Tryz.func178 kq ?_;refine zZ (fun _=>[(0,Co.v x),(1,.ptr 1 0)]) (fun _=>(dV cs0 g)) ?_ ?_;apply zW 2 (mT [(2,.ptr 2 0)] [0]) (mH [] [.box (MK x)]);apply zV 2;refine qA (hg x hx) ew ew rfl ew ew kq ?_;refine zR 2 (fun _=>[(3,.bool (!(p x)))]) (fun _=>[.box cs0,.box (DI g),.box (MK x)]) ?_ ?_;refine aJ kq ?_;refine aO (l:=[.bool (!(p x))]) (.inr rfl) kq (by rfl) aQ aQ ?_ ?_;refine Eq.trans (b:=(dV cs0 g)) kq ?_
 . rfl
 . simp [am.belO,aC,aa.bel,Ty.v,Ex.v,Ct.v,Co.v,Rf.v,Sm.v,Tb.v_cs,Sc.v,Md.v,Pb.v,Ls.v,-List.map_take,-List.map_drop,-List.map_append,hz0]
 iterate 4 kernel_rfl
theorem LH (l:List (Co)) (g:Nat) (p:(Co)->Bool) (cs0:List aa) (hy:w6 l g p cs0):av cx 229 [.imm (fi l),.fn (.func 178) [] [.ptr 1 0]] (dV cs0 g) (fun v h=>v=(.int .i64 (bF (fun x=>!p x) l))/\h=(dV cs0 g)):=by
 have ⟨hg,hz0,hn⟩:=hy;refine fI 19 2 [fw] Tryz.func229 kq ?_;refine zZ (fun _=>[(0,.imm (fi l)),(1,.fn (.func 178) [] [.ptr 1 0])]) (fun _=>(dV cs0 g)) ?_ ?_;apply zW 1 id id;apply ai;apply zV 1;refine qy (aj (l:=l) (enc:=Co.v) kq em) ?_ ?_ ?_;apply zR 1 (mU [(7,nI l.length),(8,.int .i64 0)]) id;apply qB 0;refine aT (σ:=Nat) (fun k=>[(0,.imm (fi l)),(1,.fn (.func 178) [] [.ptr 1 0]),(7,.int .i64 ((l.length:Nat):Int)),(8,.int .i64 ((k:Nat):Int))]) (fun k=>(dV cs0 g)) (fun k=>k<=l.length/\∀ i,i<k->¬ (!p (l.getD i Co.zero))=true) (fun k=>l.length - k) 0 kq rA (fg kq kq aA ew) ?_;rintro k ⟨hk,ha⟩;apply zW 1 (mU [(9,.bool (decide (((k:Nat):Int)<((l.length:Nat):Int))))]) id;apply ai;by_cases hb1:((k:Nat):Int)<((l.length:Nat):Int);apply qt (decide_eq_true hb1);apply qK;apply zZ (mT [] [9]) id;apply ai;apply qB 1;apply zW 2 (o5 k) id;apply zV 3;refine qy ((au (k:=.i64) (l:=l) (enc:=Co.v) (i:=((k:Nat):Int)) Co.zero kq em j5 (fun _=>rfl) oq oq).trans (congrArg (fun cs=>some (aa.pimm cs 0,_)) (de (dw l k)))) ?_ ?_ ?_;apply qr 1;refine qA (hs:=(dV cs0 g)) (hs':=(dV cs0 g)) (MB l g p cs0 (dw l k) (aH _ _ _ oq) hy) ew ew rfl ew ew kq ?_;refine zN (mU [(16,.bool (!(p (dw l k))))]) id ?_ ?_;by_cases hb2:(p (dw l k))=true;refine qf (x:=(!(p (dw l k)))) (congrArg not (hb2)) ?_ ?_;refine qk ?_ ?_;refine ag ?_;apply ab;apply zZ ot id;apply qo;refine qy (az (a:=((k:Nat):Int)) (b:=1) kq oq oq) ?_ ?_ ?_;apply qr 1;apply qe;refine ab ⟨k+1,?_,?_,(fg kq kq aA ew)⟩
 . omega
 . refine ⟨by omega,fun i hi=>?_⟩;rcases Nat.lt_succ_iff_lt_or_eq.1 hi with h|h
   . exact ha i h
   . subst h;simp_all
 iterate 8 kernel_rfl
 refine qt (x:=(!(p (dw l k)))) (congrArg not (Bool.eq_false_iff.2 hb2)) ?_ ?_;refine zW 2 (fun _=>[(4,nI k)]) (fun _=>(dV cs0 g)) ?_ ?_;refine aJ kq ?_;apply iR;apply aR;apply aR;apply iR;apply aR;refine aO (l:=(w0 k)) (.inr rfl) kq Lk aQ aQ ?_ ?_;refine Eq.trans (b:=(dV cs0 g)) kq ?_
 . rfl
 rotate_left
 iterate 14 kernel_rfl
 apply qf (decide_eq_false hb1);refine aK 0 kq kq ?_;apply ac;apply ac;refine ao ?_;apply ab;refine zZ (fun _=>[]) id ?_ ?_;refine zW 1 (fun _=>yp) (fun _=>(dV cs0 g)) ?_ ?_;refine aJ kq ?_;refine aO (l:=xj) (.inr rfl) kq Lk aQ aQ ?_ ?_;refine Eq.trans (b:=(dV cs0 g)) kq ?_
 . rfl
 rotate_left
 iterate 14 kernel_rfl
 all_goals
  simp [am.belO,aC,aa.bel,Ty.v,Ex.v,Ct.v,Co.v,Rf.v,Sm.v,Tb.v_cs,Sc.v,Md.v,Pb.v,Ls.v,-List.map_take,-List.map_drop,-List.map_append,hz0]
theorem NF (l:List (Co)) (g:Nat) (p:(Co)->Bool) (cs0:List aa) (hy:w6 l g p cs0):av cx 177 [.imm (fi l),.fn (.func 178) [] [.ptr 1 0]] (dV cs0 g) (fun v h=>v=(.bool (l.any (fun x=>!p x)))/\h=(dV cs0 g)):=by
 have ⟨hg,hz0,hn⟩:=hy;refine fI 9 2 [fw] Tryz.func177 kq ?_;refine zZ (fun _=>[(0,.imm (fi l)),(1,.fn (.func 178) [] [.ptr 1 0])]) (fun _=>(dV cs0 g)) ?_ ?_;apply zW 1 id id;apply zV 2;refine qA (LH l g p cs0 hy) ew ew rfl ew ew kq ?_;refine zR 2 (fun _=>[(4,.bool (decide ((bF (fun x=>!p x) l) >= 0)))]) (fun _=>(dV cs0 g)) ?_ ?_;refine aJ kq ?_;refine aO (l:=[.bool (decide ((bF (fun x=>!p x) l) >= 0))]) (.inr rfl) kq xk aQ aQ ?_ ?_;refine Eq.trans (b:=(dV cs0 g)) kq ?_
 . rfl
 . simp [am.belO,aC,aa.bel,Ty.v,Ex.v,Ct.v,Co.v,Rf.v,Sm.v,Tb.v_cs,Sc.v,Md.v,Pb.v,Ls.v,-List.map_take,-List.map_drop,-List.map_append,hz0]
 iterate 4 kernel_rfl
theorem K3 (l:List (Co)) (g:Nat) (p:(Co)->Bool) (cs0:List aa) (hy:w6 l g p cs0):av cx 110 [.imm (fi l),.fn (.func g) [] [.ptr 0 0]] [.box cs0] (fun v h=>v=(.bool (l.all p))/\h=[.box cs0]):=by
 have ⟨hg,hz0,hn⟩:=hy;refine fI 9 1 [fw] Tryz.func110 kq ?_;refine zZ (fun _=>[(0,.imm (fi l)),(1,.fn (.func g) [] [.ptr 0 0])]) (fun _=>[.box cs0]) ?_ ?_;apply zW 2 (mT [(3,.ptr 1 0)] [1]) (mH [] [.box (DI g)]);apply zV 2;refine qA (NF l g p cs0 hy) ew ew rfl ew ew kq ?_;refine zR 2 (fun _=>[(4,.bool (!(l.any (fun x=>!p x))))]) (fun _=>(dV cs0 g)) ?_ ?_;refine aJ kq ?_;refine aO (l:=[.bool (!(l.any (fun x=>!p x)))]) (.inr rfl) kq Jv aQ aQ ?_ ?_;refine Eq.trans (b:=[.box cs0]) kq ?_
 . rfl
 . simp [am.belO,aC,aa.bel,Ty.v,Ex.v,Ct.v,Co.v,Rf.v,Sm.v,Tb.v_cs,Sc.v,Md.v,Pb.v,Ls.v,-List.map_take,-List.map_drop,-List.map_append,hz0]
 iterate 4 kernel_rfl
abbrev sa (l:List (List UInt8)) (g:Nat) (p:(List UInt8)->Bool) (cs0:List aa) (cs1:List aa):Prop:=(∀ x∈l,av cx g [.str x,.ptr 1 0] [.box cs0,.box cs1] (fun v h=>v=.bool (p x)/\h=[.box cs0,.box cs1]))/\(∀ n,aC (n+2) cs0=true)/\(∀ n,aC (n+2) cs1=true)/\l.length<1000000000
theorem eA {p:Prop} (h:p:=by simp [am.belO,aC,aa.bel,Ty.v,Ex.v,Ct.v,Co.v,Rf.v,Sm.v,Tb.v_cs,Sc.v,Md.v,Pb.v,Ls.v,-List.map_take,-List.map_drop,-List.map_append,hz0,hz1]):p:=h
abbrev jN (cs0:List aa)(cs1:List aa)(g:Nat):List am:=[.box cs0,.box cs1,.box [.fn (.func g) [] [.ptr 1 0]]]
theorem Jh (l:List bz) (g:Nat) (p:bz->Bool) (cs0:List aa) (cs1:List aa) (x:List UInt8) (hx:x∈l) (hy:sa l g p cs0 cs1):av cx 184 [.str x,.ptr 2 0] (jN cs0 cs1 g) (fun v h=>v=(.bool (!(p x)))/\h=(jN cs0 cs1 g)):=by
 have ⟨hg,hz0,hz1,hn⟩:=hy;refine fI 8 3 [oe] Tryz.func184 kq ?_;refine zZ (fun _=>[(0,.str x),(1,.ptr 2 0)]) (fun _=>(jN cs0 cs1 g)) ?_ ?_;apply zW 1 id id;apply zV 2;refine qA (hg x hx) eA eA rfl eA eA kq ?_;refine zR 2 (fun _=>[(3,.bool (!(p x)))]) (fun _=>(jN cs0 cs1 g)) ?_ ?_;refine aJ kq ?_;refine aO (l:=[.bool (!(p x))]) (.inr rfl) kq (by rfl) aQ aQ ?_ ?_;refine Eq.trans (b:=(jN cs0 cs1 g)) kq ?_
 . rfl
 . simp [am.belO,aC,aa.bel,Ty.v,Ex.v,Ct.v,Co.v,Rf.v,Sm.v,Tb.v_cs,Sc.v,Md.v,Pb.v,Ls.v,-List.map_take,-List.map_drop,-List.map_append,hz0,hz1]
 iterate 4 kernel_rfl
theorem U2 {p:Prop} (h:p:=by show aa.int _ _=aa.int _ _;first|rw [<- cO (p:=(fun x=>!p x)) [] (l:=l) (k:=k) oq ha (by simp_all)]|rw [<- cR (p:=(fun x=>!p x)) [] (l:=l) (fun i hi=>ha i oq)]):p:=h
theorem JQ (l:List bz) (g:Nat) (p:bz->Bool) (cs0:List aa) (cs1:List aa) (hy:sa l g p cs0 cs1):av cx 234 [.imm (l.map aa.str),.fn (.func 184) [] [.ptr 2 0]] (jN cs0 cs1 g) (fun v h=>v=(.int .i64 (bF (fun x=>!p x) l))/\h=(jN cs0 cs1 g)):=by
 have ⟨hg,hz0,hz1,hn⟩:=hy;refine fI 19 3 [fw] Tryz.func234 kq ?_;refine zZ (fun _=>[(0,.imm (l.map aa.str)),(1,.fn (.func 184) [] [.ptr 2 0])]) (fun _=>(jN cs0 cs1 g)) ?_ ?_;apply zW 1 id id;apply ai;apply zV 1;refine qy (aj (l:=l) (enc:=aa.str) kq a6) ?_ ?_ ?_;apply zR 1 (mU [(7,nI l.length),(8,.int .i64 0)]) id;apply qB 0;refine aT (σ:=Nat) (fun k=>[(0,.imm (l.map aa.str)),(1,.fn (.func 184) [] [.ptr 2 0]),(7,.int .i64 ((l.length:Nat):Int)),(8,.int .i64 ((k:Nat):Int))]) (fun k=>(jN cs0 cs1 g)) (fun k=>k<=l.length/\∀ i,i<k->¬ (!p (l.getD i []))=true) (fun k=>l.length - k) 0 kq rA (fg kq kq aA eA) ?_;rintro k ⟨hk,ha⟩;apply zW 1 (mU [(9,.bool (decide (((k:Nat):Int)<((l.length:Nat):Int))))]) id;apply ai;by_cases hb1:((k:Nat):Int)<((l.length:Nat):Int);apply qt (decide_eq_true hb1);apply qK;apply zZ (mT [] [9]) id;apply ai;apply qB 1;apply zW 2 (o5 k) id;apply zV 3;refine qy (au (k:=.i64) (l:=l) (enc:=aa.str) (i:=((k:Nat):Int)) [] kq a6 ty9 (fun _=>rfl) oq oq) ?_ ?_ ?_;apply qr 1;refine qA (hs:=(jN cs0 cs1 g)) (hs':=(jN cs0 cs1 g)) (Jh l g p cs0 cs1 (l.getD k []) (aH _ _ _ oq) hy) eA eA rfl eA eA kq ?_;refine zN (mU [(16,.bool (!(p (l.getD k []))))]) id ?_ ?_;by_cases hb2:(p (l.getD k []))=true;refine qf (x:=(!(p (l.getD k [])))) (congrArg not (hb2)) ?_ ?_;refine qk ?_ ?_;refine ag ?_;apply ab;apply zZ ot id;apply qo;refine qy (az (a:=((k:Nat):Int)) (b:=1) kq oq oq) ?_ ?_ ?_;apply qr 1;apply qe;refine ab ⟨k+1,?_,?_,(fg kq kq aA eA)⟩
 . omega
 . refine ⟨by omega,fun i hi=>?_⟩;rcases Nat.lt_succ_iff_lt_or_eq.1 hi with h|h
   . exact ha i h
   . subst h;simp_all
 iterate 8 kernel_rfl
 refine qt (x:=(!(p (l.getD k [])))) (congrArg not (Bool.eq_false_iff.2 hb2)) ?_ ?_;refine zW 2 (fun _=>[(4,nI k)]) (fun _=>(jN cs0 cs1 g)) ?_ ?_;refine aJ kq ?_;apply iR;apply aR;apply aR;apply iR;apply aR;refine aO (l:=(w0 k)) (.inr rfl) kq U2 aQ aQ ?_ ?_;refine Eq.trans (b:=(jN cs0 cs1 g)) kq ?_
 . rfl
 rotate_left
 iterate 14 kernel_rfl
 apply qf (decide_eq_false hb1);refine aK 0 kq kq ?_;apply ac;apply ac;refine ao ?_;apply ab;refine zZ (fun _=>[]) id ?_ ?_;refine zW 1 (fun _=>yp) (fun _=>(jN cs0 cs1 g)) ?_ ?_;refine aJ kq ?_;refine aO (l:=xj) (.inr rfl) kq U2 aQ aQ ?_ ?_;refine Eq.trans (b:=(jN cs0 cs1 g)) kq ?_
 . rfl
 rotate_left
 iterate 14 kernel_rfl
 all_goals
  simp [am.belO,aC,aa.bel,Ty.v,Ex.v,Ct.v,Co.v,Rf.v,Sm.v,Tb.v_cs,Sc.v,Md.v,Pb.v,Ls.v,-List.map_take,-List.map_drop,-List.map_append,hz0,hz1]
theorem Hg (l:List bz) (g:Nat) (p:bz->Bool) (cs0:List aa) (cs1:List aa) (hy:sa l g p cs0 cs1):av cx 183 [.imm (l.map aa.str),.fn (.func 184) [] [.ptr 2 0]] (jN cs0 cs1 g) (fun v h=>v=(.bool (l.any (fun x=>!p x)))/\h=(jN cs0 cs1 g)):=by
 have ⟨hg,hz0,hz1,hn⟩:=hy;refine fI 9 3 [fw] Tryz.func183 kq ?_;refine zZ (fun _=>[(0,.imm (l.map aa.str)),(1,.fn (.func 184) [] [.ptr 2 0])]) (fun _=>(jN cs0 cs1 g)) ?_ ?_;apply zW 1 id id;apply zV 2;refine qA (JQ l g p cs0 cs1 hy) eA eA rfl eA eA kq ?_;refine zR 2 (fun _=>[(4,.bool (decide ((bF (fun x=>!p x) l) >= 0)))]) (fun _=>(jN cs0 cs1 g)) ?_ ?_;refine aJ kq ?_;refine aO (l:=[.bool (decide ((bF (fun x=>!p x) l) >= 0))]) (.inr rfl) kq xk aQ aQ ?_ ?_;refine Eq.trans (b:=(jN cs0 cs1 g)) kq ?_
 . rfl
 . simp [am.belO,aC,aa.bel,Ty.v,Ex.v,Ct.v,Co.v,Rf.v,Sm.v,Tb.v_cs,Sc.v,Md.v,Pb.v,Ls.v,-List.map_take,-List.map_drop,-List.map_append,hz0,hz1]
 iterate 4 kernel_rfl
theorem Jp (l:List bz) (g:Nat) (p:bz->Bool) (cs0:List aa) (cs1:List aa) (hy:sa l g p cs0 cs1):av cx 130 [.imm (l.map aa.str),.fn (.func g) [] [.ptr 1 0]] [.box cs0,.box cs1] (fun v h=>v=(.bool (l.all p))/\h=[.box cs0,.box cs1]):=by
 have ⟨hg,hz0,hz1,hn⟩:=hy;refine fI 9 2 [fw] Tryz.func130 kq ?_;refine zZ (fun _=>[(0,.imm (l.map aa.str)),(1,.fn (.func g) [] [.ptr 1 0])]) (fun _=>[.box cs0,.box cs1]) ?_ ?_;apply zW 2 (mT [(3,.ptr 2 0)] [1]) (mH [] [.box [.fn (.func g) [] [.ptr 1 0]]]);apply zV 2;refine qA (Hg l g p cs0 cs1 hy) eA eA rfl eA eA kq ?_;refine zR 2 (fun _=>[(4,.bool (!(l.any (fun x=>!p x))))]) (fun _=>(jN cs0 cs1 g)) ?_ ?_;refine aJ kq ?_;refine aO (l:=[.bool (!(l.any (fun x=>!p x)))]) (.inr rfl) kq Jv aQ aQ ?_ ?_;refine Eq.trans (b:=[.box cs0,.box cs1]) kq ?_
 . rfl
 . simp [am.belO,aC,aa.bel,Ty.v,Ex.v,Ct.v,Co.v,Rf.v,Sm.v,Tb.v_cs,Sc.v,Md.v,Pb.v,Ls.v,-List.map_take,-List.map_drop,-List.map_append,hz0,hz1]
 iterate 4 kernel_rfl
abbrev x6 (l:List (Rf)) (g:Nat) (p:(Rf)->Bool) (cs0:List aa) (cs1:List aa) (cs2:List aa):Prop:=(∀ x∈l,av cx g [x.v,.ptr 0 0,.ptr 2 0] [.box cs0,.box cs1,.box cs2] (fun v h=>v=.bool (p x)/\h=[.box cs0,.box cs1,.box cs2]))/\(∀ n,aC (n+3) cs0=true)/\(∀ n,aC (n+3) cs1=true)/\(∀ n,aC (n+3) cs2=true)/\l.length<1000000000
abbrev Lf :List aa:=[.ptr 0 0,.ptr 2 0]
theorem lD {p:Prop} (h:p:=by simp [am.belO,aC,aa.bel,Ty.v,Ex.v,Ct.v,Co.v,Rf.v,Sm.v,Tb.v_cs,Sc.v,Md.v,Pb.v,Ls.v,-List.map_take,-List.map_drop,-List.map_append,hz0,hz1,hz2]):p:=h
abbrev pS (cs0:List aa)(cs1:List aa)(cs2:List aa)(g:Nat):List am:=[.box cs0,.box cs1,.box cs2,.box [.fn (.func g) [] Lf]]
abbrev Ch (cs0:List aa)(cs1:List aa)(cs2:List aa)(g:Nat):List am:=[.box cs0,.box cs1,.box cs2,.box [.fn (.func g) [] [.ptr 0 0,.ptr 2 0]]]
theorem Lz (l:List (Rf)) (g:Nat) (p:(Rf)->Bool) (cs0:List aa) (cs1:List aa) (cs2:List aa) (x:Rf) (hx:x∈l) (hy:x6 l g p cs0 cs1 cs2):av cx 185 [Rf.v x,.ptr 3 0] (Ch cs0 cs1 cs2 g) (fun v h=>v=(.bool (!(p x)))/\h=(Ch cs0 cs1 cs2 g)):=by
 have ⟨hg,hz0,hz1,hz2,hn⟩:=hy;refine fI 8 4 [oe] Tryz.func185 kq ?_;refine zZ (fun _=>[(0,Rf.v x),(1,.ptr 3 0)]) (fun _=>(pS cs0 cs1 cs2 g)) ?_ ?_;apply zW 2 (mT [(2,.ptr 4 0)] [0]) (mH [] [.box [.str x.col,.str x.tab]]);apply zV 2;refine qA (hg x hx) lD lD rfl lD lD kq ?_;refine zR 2 (fun _=>[(3,.bool (!(p x)))]) (fun _=>[.box cs0,.box cs1,.box cs2,.box [.fn (.func g) [] Lf],.box [.str x.col,.str x.tab]]) ?_ ?_;refine aJ kq ?_;refine aO (l:=[.bool (!(p x))]) (.inr rfl) kq (by rfl) aQ aQ ?_ ?_;refine Eq.trans (b:=(pS cs0 cs1 cs2 g)) kq ?_
 . rfl
 . simp [am.belO,aC,aa.bel,Ty.v,Ex.v,Ct.v,Co.v,Rf.v,Sm.v,Tb.v_cs,Sc.v,Md.v,Pb.v,Ls.v,-List.map_take,-List.map_drop,-List.map_append,hz0,hz1,hz2]
 iterate 4 kernel_rfl
theorem KS {p:Prop} (h:p:=by show aa.int _ _=aa.int _ _;first|rw [<- cO (p:=(fun x=>!p x)) Rf.zero (l:=l) (k:=k) oq ha (by simp_all)]|rw [<- cR (p:=(fun x=>!p x)) Rf.zero (l:=l) (fun i hi=>ha i oq)]):p:=h
abbrev eF (l:List (Rf))(k:Nat):=l.getD k Rf.zero
abbrev fy (l:List (Rf)):=l.map Rf.v
theorem NL (l:List (Rf)) (g:Nat) (p:(Rf)->Bool) (cs0:List aa) (cs1:List aa) (cs2:List aa) (hy:x6 l g p cs0 cs1 cs2):av cx 83 [.imm (fy l),.fn (.func 185) [] [.ptr 3 0]] (Ch cs0 cs1 cs2 g) (fun v h=>v=(.int .i64 (bF (fun x=>!p x) l))/\h=(Ch cs0 cs1 cs2 g)):=by
 have ⟨hg,hz0,hz1,hz2,hn⟩:=hy;refine fI 19 4 [fw] Tryz.func83 kq ?_;refine zZ (fun _=>[(0,.imm (fy l)),(1,.fn (.func 185) [] [.ptr 3 0])]) (fun _=>(pS cs0 cs1 cs2 g)) ?_ ?_;apply zW 1 id id;apply ai;apply zV 1;refine qy (aj (l:=l) (enc:=Rf.v) kq ge) ?_ ?_ ?_;apply zR 1 (mU [(7,nI l.length),(8,.int .i64 0)]) id;apply qB 0;refine aT (σ:=Nat) (fun k=>[(0,.imm (fy l)),(1,.fn (.func 185) [] [.ptr 3 0]),(7,.int .i64 ((l.length:Nat):Int)),(8,.int .i64 ((k:Nat):Int))]) (fun k=>(Ch cs0 cs1 cs2 g)) (fun k=>k<=l.length/\∀ i,i<k->¬ (!p (l.getD i Rf.zero))=true) (fun k=>l.length - k) 0 kq rA (fg kq kq aA lD) ?_;rintro k ⟨hk,ha⟩;apply zW 1 (mU [(9,.bool (decide (((k:Nat):Int)<((l.length:Nat):Int))))]) id;apply ai;by_cases hb1:((k:Nat):Int)<((l.length:Nat):Int);apply qt (decide_eq_true hb1);apply qK;apply zZ (mT [] [9]) id;apply ai;apply qB 1;apply zW 2 (o5 k) id;apply zV 3;refine qy ((au (k:=.i64) (l:=l) (enc:=Rf.v) (i:=((k:Nat):Int)) Rf.zero kq ge mW (fun _=>rfl) oq oq).trans (congrArg (fun cs=>some (aa.pimm cs 0,_)) (eK (eF l k)))) ?_ ?_ ?_;apply qr 1;refine qA (hs:=(pS cs0 cs1 cs2 g)) (hs':=(pS cs0 cs1 cs2 g)) (Lz l g p cs0 cs1 cs2 (eF l k) (aH _ _ _ oq) hy) lD lD rfl lD lD kq ?_;refine zN (mU [(16,.bool (!(p (eF l k))))]) id ?_ ?_;by_cases hb2:(p (eF l k))=true;refine qf (x:=(!(p (eF l k)))) (congrArg not (hb2)) ?_ ?_;refine qk ?_ ?_;refine ag ?_;apply ab;apply zZ ot id;apply qo;refine qy (az (a:=((k:Nat):Int)) (b:=1) kq oq oq) ?_ ?_ ?_;apply qr 1;apply qe;refine ab ⟨k+1,?_,?_,(fg kq kq aA lD)⟩
 . omega
 . refine ⟨by omega,fun i hi=>?_⟩;rcases Nat.lt_succ_iff_lt_or_eq.1 hi with h|h
   . exact ha i h
   . subst h;simp_all
 iterate 8 kernel_rfl
 refine qt (x:=(!(p (eF l k)))) (congrArg not (Bool.eq_false_iff.2 hb2)) ?_ ?_;refine zW 2 (fun _=>[(4,nI k)]) (fun _=>(pS cs0 cs1 cs2 g)) ?_ ?_;refine aJ kq ?_;apply iR;apply aR;apply aR;apply iR;apply aR;refine aO (l:=(w0 k)) (.inr rfl) kq KS aQ aQ ?_ ?_;refine Eq.trans (b:=(pS cs0 cs1 cs2 g)) kq ?_
 . rfl
 rotate_left
 iterate 14 kernel_rfl
 apply qf (decide_eq_false hb1);refine aK 0 kq kq ?_;apply ac;apply ac;refine ao ?_;apply ab;refine zZ (fun _=>[]) id ?_ ?_;refine zW 1 (fun _=>yp) (fun _=>(pS cs0 cs1 cs2 g)) ?_ ?_;refine aJ kq ?_;refine aO (l:=xj) (.inr rfl) kq KS aQ aQ ?_ ?_;refine Eq.trans (b:=(pS cs0 cs1 cs2 g)) kq ?_
 . rfl
 rotate_left
 iterate 14 kernel_rfl
 all_goals
  simp [am.belO,aC,aa.bel,Ty.v,Ex.v,Ct.v,Co.v,Rf.v,Sm.v,Tb.v_cs,Sc.v,Md.v,Pb.v,Ls.v,-List.map_take,-List.map_drop,-List.map_append,hz0,hz1,hz2]
theorem LD (l:List (Rf)) (g:Nat) (p:(Rf)->Bool) (cs0:List aa) (cs1:List aa) (cs2:List aa) (hy:x6 l g p cs0 cs1 cs2):av cx 31 [.imm (fy l),.fn (.func 185) [] [.ptr 3 0]] (Ch cs0 cs1 cs2 g) (fun v h=>v=(.bool (l.any (fun x=>!p x)))/\h=(Ch cs0 cs1 cs2 g)):=by
 have ⟨hg,hz0,hz1,hz2,hn⟩:=hy;refine fI 9 4 [fw] Tryz.func31 kq ?_;refine zZ (fun _=>[(0,.imm (fy l)),(1,.fn (.func 185) [] [.ptr 3 0])]) (fun _=>(pS cs0 cs1 cs2 g)) ?_ ?_;apply zW 1 id id;apply zV 2;refine qA (NL l g p cs0 cs1 cs2 hy) lD lD rfl lD lD kq ?_;refine zR 2 (fun _=>[(4,.bool (decide ((bF (fun x=>!p x) l) >= 0)))]) (fun _=>(pS cs0 cs1 cs2 g)) ?_ ?_;refine aJ kq ?_;refine aO (l:=[.bool (decide ((bF (fun x=>!p x) l) >= 0))]) (.inr rfl) kq xk aQ aQ ?_ ?_;refine Eq.trans (b:=(pS cs0 cs1 cs2 g)) kq ?_
 . rfl
 . simp [am.belO,aC,aa.bel,Ty.v,Ex.v,Ct.v,Co.v,Rf.v,Sm.v,Tb.v_cs,Sc.v,Md.v,Pb.v,Ls.v,-List.map_take,-List.map_drop,-List.map_append,hz0,hz1,hz2]
 iterate 4 kernel_rfl
theorem NX (l:List (Rf)) (g:Nat) (p:(Rf)->Bool) (cs0:List aa) (cs1:List aa) (cs2:List aa) (hy:x6 l g p cs0 cs1 cs2):av cx 131 [.imm (fy l),.fn (.func g) [] [.ptr 0 0,.ptr 2 0]] [.box cs0,.box cs1,.box cs2] (fun v h=>v=(.bool (l.all p))/\h=[.box cs0,.box cs1,.box cs2]):=by
 have ⟨hg,hz0,hz1,hz2,hn⟩:=hy;refine fI 9 3 [fw] Tryz.func131 kq ?_;refine zZ (fun _=>[(0,.imm (fy l)),(1,.fn (.func g) [] Lf)]) (fun _=>[.box cs0,.box cs1,.box cs2]) ?_ ?_;apply zW 2 (mT [(3,.ptr 3 0)] [1]) (mH [] [.box [.fn (.func g) [] Lf]]);apply zV 2;refine qA (LD l g p cs0 cs1 cs2 hy) lD lD rfl lD lD kq ?_;refine zR 2 (fun _=>[(4,.bool (!(l.any (fun x=>!p x))))]) (fun _=>(pS cs0 cs1 cs2 g)) ?_ ?_;refine aJ kq ?_;refine aO (l:=[.bool (!(l.any (fun x=>!p x)))]) (.inr rfl) kq Jv aQ aQ ?_ ?_;refine Eq.trans (b:=[.box cs0,.box cs1,.box cs2]) kq ?_
 . rfl
 . simp [am.belO,aC,aa.bel,Ty.v,Ex.v,Ct.v,Co.v,Rf.v,Sm.v,Tb.v_cs,Sc.v,Md.v,Pb.v,Ls.v,-List.map_take,-List.map_drop,-List.map_append,hz0,hz1,hz2]
 iterate 4 kernel_rfl
abbrev yo (l:List (Rf)) (g:Nat) (p:(Rf)->Bool) (cs0:List aa) (cs1:List aa):Prop:=(∀ x∈l,av cx g [x.v,.ptr 1 0,.ptr 0 0] [.box cs0,.box cs1] (fun v h=>v=.bool (p x)/\h=[.box cs0,.box cs1]))/\(∀ n,aC (n+2) cs0=true)/\(∀ n,aC (n+2) cs1=true)/\l.length<1000000000
abbrev Ly :List aa:=[.ptr 1 0,.ptr 0 0]
abbrev pA (cs0:List aa)(cs1:List aa)(g:Nat):List am:=[.box cs0,.box cs1,.box [.fn (.func g) [] Ly]]
abbrev Bz (cs0:List aa)(cs1:List aa)(g:Nat):List am:=[.box cs0,.box cs1,.box [.fn (.func g) [] [.ptr 1 0,.ptr 0 0]]]
theorem LT (l:List (Rf)) (g:Nat) (p:(Rf)->Bool) (cs0:List aa) (cs1:List aa) (x:Rf) (hx:x∈l) (hy:yo l g p cs0 cs1):av cx 185 [Rf.v x,.ptr 2 0] (Bz cs0 cs1 g) (fun v h=>v=(.bool (!(p x)))/\h=(Bz cs0 cs1 g)):=by
 have ⟨hg,hz0,hz1,hn⟩:=hy;refine fI 8 3 [oe] Tryz.func185 kq ?_;refine zZ (fun _=>[(0,Rf.v x),(1,.ptr 2 0)]) (fun _=>(pA cs0 cs1 g)) ?_ ?_;apply zW 2 (mT [(2,.ptr 3 0)] [0]) (mH [] [.box [.str x.col,.str x.tab]]);apply zV 2;refine qA (hg x hx) eA eA rfl eA eA kq ?_;refine zR 2 (fun _=>[(3,.bool (!(p x)))]) (fun _=>[.box cs0,.box cs1,.box [.fn (.func g) [] Ly],.box [.str x.col,.str x.tab]]) ?_ ?_;refine aJ kq ?_;refine aO (l:=[.bool (!(p x))]) (.inr rfl) kq (by rfl) aQ aQ ?_ ?_;refine Eq.trans (b:=(pA cs0 cs1 g)) kq ?_
 . rfl
 . simp [am.belO,aC,aa.bel,Ty.v,Ex.v,Ct.v,Co.v,Rf.v,Sm.v,Tb.v_cs,Sc.v,Md.v,Pb.v,Ls.v,-List.map_take,-List.map_drop,-List.map_append,hz0,hz1]
 iterate 4 kernel_rfl
theorem Nv (l:List (Rf)) (g:Nat) (p:(Rf)->Bool) (cs0:List aa) (cs1:List aa) (hy:yo l g p cs0 cs1):av cx 83 [.imm (fy l),.fn (.func 185) [] [.ptr 2 0]] (Bz cs0 cs1 g) (fun v h=>v=(.int .i64 (bF (fun x=>!p x) l))/\h=(Bz cs0 cs1 g)):=by
 have ⟨hg,hz0,hz1,hn⟩:=hy;refine fI 19 3 [fw] Tryz.func83 kq ?_;refine zZ (fun _=>[(0,.imm (fy l)),(1,.fn (.func 185) [] [.ptr 2 0])]) (fun _=>(pA cs0 cs1 g)) ?_ ?_;apply zW 1 id id;apply ai;apply zV 1;refine qy (aj (l:=l) (enc:=Rf.v) kq ge) ?_ ?_ ?_;apply zR 1 (mU [(7,nI l.length),(8,.int .i64 0)]) id;apply qB 0;refine aT (σ:=Nat) (fun k=>[(0,.imm (fy l)),(1,.fn (.func 185) [] [.ptr 2 0]),(7,.int .i64 ((l.length:Nat):Int)),(8,.int .i64 ((k:Nat):Int))]) (fun k=>(Bz cs0 cs1 g)) (fun k=>k<=l.length/\∀ i,i<k->¬ (!p (l.getD i Rf.zero))=true) (fun k=>l.length - k) 0 kq rA (fg kq kq aA eA) ?_;rintro k ⟨hk,ha⟩;apply zW 1 (mU [(9,.bool (decide (((k:Nat):Int)<((l.length:Nat):Int))))]) id;apply ai;by_cases hb1:((k:Nat):Int)<((l.length:Nat):Int);apply qt (decide_eq_true hb1);apply qK;apply zZ (mT [] [9]) id;apply ai;apply qB 1;apply zW 2 (o5 k) id;apply zV 3;refine qy ((au (k:=.i64) (l:=l) (enc:=Rf.v) (i:=((k:Nat):Int)) Rf.zero kq ge mW (fun _=>rfl) oq oq).trans (congrArg (fun cs=>some (aa.pimm cs 0,_)) (eK (eF l k)))) ?_ ?_ ?_;apply qr 1;refine qA (hs:=(pA cs0 cs1 g)) (hs':=(pA cs0 cs1 g)) (LT l g p cs0 cs1 (eF l k) (aH _ _ _ oq) hy) eA eA rfl eA eA kq ?_;refine zN (mU [(16,.bool (!(p (eF l k))))]) id ?_ ?_;by_cases hb2:(p (eF l k))=true;refine qf (x:=(!(p (eF l k)))) (congrArg not (hb2)) ?_ ?_;refine qk ?_ ?_;refine ag ?_;apply ab;apply zZ ot id;apply qo;refine qy (az (a:=((k:Nat):Int)) (b:=1) kq oq oq) ?_ ?_ ?_;apply qr 1;apply qe;refine ab ⟨k+1,?_,?_,(fg kq kq aA eA)⟩
 . omega
 . refine ⟨by omega,fun i hi=>?_⟩;rcases Nat.lt_succ_iff_lt_or_eq.1 hi with h|h
   . exact ha i h
   . subst h;simp_all
 iterate 8 kernel_rfl
 refine qt (x:=(!(p (eF l k)))) (congrArg not (Bool.eq_false_iff.2 hb2)) ?_ ?_;refine zW 2 (fun _=>[(4,nI k)]) (fun _=>(pA cs0 cs1 g)) ?_ ?_;refine aJ kq ?_;apply iR;apply aR;apply aR;apply iR;apply aR;refine aO (l:=(w0 k)) (.inr rfl) kq KS aQ aQ ?_ ?_;refine Eq.trans (b:=(pA cs0 cs1 g)) kq ?_
 . rfl
 rotate_left
 iterate 14 kernel_rfl
 apply qf (decide_eq_false hb1);refine aK 0 kq kq ?_;apply ac;apply ac;refine ao ?_;apply ab;refine zZ (fun _=>[]) id ?_ ?_;refine zW 1 (fun _=>yp) (fun _=>(pA cs0 cs1 g)) ?_ ?_;refine aJ kq ?_;refine aO (l:=xj) (.inr rfl) kq KS aQ aQ ?_ ?_;refine Eq.trans (b:=(pA cs0 cs1 g)) kq ?_
 . rfl
 rotate_left
 iterate 14 kernel_rfl
 all_goals
  simp [am.belO,aC,aa.bel,Ty.v,Ex.v,Ct.v,Co.v,Rf.v,Sm.v,Tb.v_cs,Sc.v,Md.v,Pb.v,Ls.v,-List.map_take,-List.map_drop,-List.map_append,hz0,hz1]
theorem Lo (l:List (Rf)) (g:Nat) (p:(Rf)->Bool) (cs0:List aa) (cs1:List aa) (hy:yo l g p cs0 cs1):av cx 31 [.imm (fy l),.fn (.func 185) [] [.ptr 2 0]] (Bz cs0 cs1 g) (fun v h=>v=(.bool (l.any (fun x=>!p x)))/\h=(Bz cs0 cs1 g)):=by
 have ⟨hg,hz0,hz1,hn⟩:=hy;refine fI 9 3 [fw] Tryz.func31 kq ?_;refine zZ (fun _=>[(0,.imm (fy l)),(1,.fn (.func 185) [] [.ptr 2 0])]) (fun _=>(pA cs0 cs1 g)) ?_ ?_;apply zW 1 id id;apply zV 2;refine qA (Nv l g p cs0 cs1 hy) eA eA rfl eA eA kq ?_;refine zR 2 (fun _=>[(4,.bool (decide ((bF (fun x=>!p x) l) >= 0)))]) (fun _=>(pA cs0 cs1 g)) ?_ ?_;refine aJ kq ?_;refine aO (l:=[.bool (decide ((bF (fun x=>!p x) l) >= 0))]) (.inr rfl) kq xk aQ aQ ?_ ?_;refine Eq.trans (b:=(pA cs0 cs1 g)) kq ?_
 . rfl
 . simp [am.belO,aC,aa.bel,Ty.v,Ex.v,Ct.v,Co.v,Rf.v,Sm.v,Tb.v_cs,Sc.v,Md.v,Pb.v,Ls.v,-List.map_take,-List.map_drop,-List.map_append,hz0,hz1]
 iterate 4 kernel_rfl
theorem LL (l:List (Rf)) (g:Nat) (p:(Rf)->Bool) (cs0:List aa) (cs1:List aa) (hy:yo l g p cs0 cs1):av cx 131 [.imm (fy l),.fn (.func g) [] [.ptr 1 0,.ptr 0 0]] [.box cs0,.box cs1] (fun v h=>v=(.bool (l.all p))/\h=[.box cs0,.box cs1]):=by
 have ⟨hg,hz0,hz1,hn⟩:=hy;refine fI 9 2 [fw] Tryz.func131 kq ?_;refine zZ (fun _=>[(0,.imm (fy l)),(1,.fn (.func g) [] Ly)]) (fun _=>[.box cs0,.box cs1]) ?_ ?_;apply zW 2 (mT [(3,.ptr 2 0)] [1]) (mH [] [.box [.fn (.func g) [] Ly]]);apply zV 2;refine qA (Lo l g p cs0 cs1 hy) eA eA rfl eA eA kq ?_;refine zR 2 (fun _=>[(4,.bool (!(l.any (fun x=>!p x))))]) (fun _=>(pA cs0 cs1 g)) ?_ ?_;refine aJ kq ?_;refine aO (l:=[.bool (!(l.any (fun x=>!p x)))]) (.inr rfl) kq Jv aQ aQ ?_ ?_;refine Eq.trans (b:=[.box cs0,.box cs1]) kq ?_
 . rfl
 . simp [am.belO,aC,aa.bel,Ty.v,Ex.v,Ct.v,Co.v,Rf.v,Sm.v,Tb.v_cs,Sc.v,Md.v,Pb.v,Ls.v,-List.map_take,-List.map_drop,-List.map_append,hz0,hz1]
 iterate 4 kernel_rfl
end Go.Proofs.YtcpklndelobigaaGreatDoor
