/- A part of the proof: plain lemmas and walks. No condition. -/
import Derived.Test.YtcpklndelobigaaGreatDoorC8
set_option linter.all false
namespace Go.Proofs.YtcpklndelobigaaGreatDoor
open Go.Proofs.YtcpklndelobigaaGreatDoor.Abs
set_option maxRecDepth 20000
set_option maxHeartbeats 4000000
def Sc.zero:Sc:=⟨[],[]⟩
noncomputable def c9:Code:=aF Tryz.f9
theorem nl {p:Prop} (h:p:=by first|omega|exact hz2 k oq|exact hz4 q oq):p:=h
theorem aH {p:Prop} (h:p:=by simp [Ty.v,Ex.v,Ct.v,Co.v,Rf.v,Sm.v,Tb.v,Sc.v]):p:=h
theorem xR (a b:Sc) (hs:a.sm):af cx 9 [Sc.v a,Sc.v b] (.bool (a.beq b)):=by
 have hz1:=hs.1;have hz2:∀ i,i<a.sums.length->(a.sums.getD i Sm.zero).sm:=fun i h=>hs.2.1 _ (bF _ _ _ h)
 have hz3:=hs.2.2.1;have hz4:∀ i,i<a.tabs.length->(a.tabs.getD i Tb.zero).sm:=fun i h=>hs.2.2.2 _ (bF _ _ _ h)
 refine am (cx:=cx) 65 0 [(ResultVar.tmp 4)] Tryz.func9 rfl rfl rfl rfl rfl zq ?_;show wpA cx 65 0 (at_ c9 []) _ _ _;refine zZ (fun _=>[(0,Sc.v a),(1,Sc.v b)]) (fun _=>[]) ?_ ?_;apply zW 3 (mT [(2,.ptr 0 0),(3,.ptr 1 0)] [0,1]) (mH [] [.box [.imm (a.sums.map Sm.v),.imm (a.tabs.map Tb.v)],.box [.imm (b.sums.map Sm.v),.imm (b.tabs.map Tb.v)]]);apply ao;apply zV 2;refine qy (aw (l:=a.sums) (enc:=Sm.v) kq cK) ?_ ?_ ?_;apply qr 2;refine qy (aw (l:=b.sums) (enc:=Sm.v) kq cK) ?_ ?_ ?_;apply qr 2;by_cases hb1:((a.sums.length:Nat):Int)=((b.sums.length:Nat):Int);refine zm [15,16] (x:=(((a.sums.length:Nat):Int) != ((b.sums.length:Nat):Int))) (bne_eq_false_iff_eq.2 hb1) ?_ ?_;apply qr 2;refine qy (aw (l:=a.tabs) (enc:=Tb.v) kq b7) ?_ ?_ ?_;apply qr 2;refine qy (aw (l:=b.tabs) (enc:=Tb.v) kq b7) ?_ ?_ ?_;apply zR 2 (mU [(24,.bool (((a.tabs.length:Nat):Int) != ((b.tabs.length:Nat):Int)))]) id;by_cases hb2:((a.tabs.length:Nat):Int)=((b.tabs.length:Nat):Int);refine qf (x:=(((a.tabs.length:Nat):Int) != ((b.tabs.length:Nat):Int))) (bne_eq_false_iff_eq.2 hb2) ?_ ?_;apply qK;apply zZ (mT [] [24]) id;apply ao;apply zW 1 (mU [(5,.int .i64 0)]) id;apply qB 0;refine aU (σ:=Nat) (fun k=>[(2,.ptr 0 0),(3,.ptr 1 0),(5,.int .i64 ((k:Nat):Int))]) (fun k=>[.box [.imm (a.sums.map Sm.v),.imm (a.tabs.map Tb.v)],.box [.imm (b.sums.map Sm.v),.imm (b.tabs.map Tb.v)]]) (fun k=>k<=a.sums.length/\∀ i,i<k->(a.sums.getD i Sm.zero).beq (b.sums.getD i Sm.zero)=true) (fun k=>a.sums.length - k) 0 kq (by exact ⟨Nat.zero_le _,fun i h=>absurd h (Nat.not_lt_zero i)⟩) (fg kq kq az (by simp [ax.belO])) ?_;rintro k ⟨hkk,hak⟩;apply ao;apply zV 3;refine qy (aw (l:=a.sums) (enc:=Sm.v) kq cK) ?_ ?_ ?_;apply zR 1 (mU [(29,.bool (decide (((k:Nat):Int)<((a.sums.length:Nat):Int))))]) id;by_cases hb3:((k:Nat):Int)<((a.sums.length:Nat):Int);apply qt (decide_eq_true hb3);apply qK;apply zZ (mT [] [29]) id;apply ao;apply qB 1;apply ao;refine zD cxM kq aj ?_;apply qu 3;refine qd ((av (k:=.i64) (l:=a.sums) (enc:=Sm.v) (i:=((k:Nat):Int)) Sm.zero kq cK en (fun _=>rfl) nl nl).trans (congrArg (fun cs=>some (aa.pimm cs 0,_)) (dQ (a.sums.getD k Sm.zero)))) ?_ ?_ ?_ ?_;apply qu 4;refine qd ((av (k:=.i64) (l:=b.sums) (enc:=Sm.v) (i:=((k:Nat):Int)) Sm.zero kq cK en (fun _=>rfl) nl nl).trans (congrArg (fun cs=>some (aa.pimm cs 0,_)) (dQ (b.sums.getD k Sm.zero)))) ?_ ?_ ?_ ?_;apply qu 1;refine qQ (xz (a.sums.getD k Sm.zero) (b.sums.getD k Sm.zero) nl) aH aH aH kq ?_;apply qu 1;refine bh kq ⟨kq,?_⟩;apply zE (mU [(6,.bool ((a.sums.getD k Sm.zero).beq (b.sums.getD k Sm.zero)))]) id;apply zW 2 (mT [(44,.bool (!((a.sums.getD k Sm.zero).beq (b.sums.getD k Sm.zero))))] [6]) id;by_cases hb4:((a.sums.getD k Sm.zero).beq (b.sums.getD k Sm.zero))=true;refine qf (x:=(!((a.sums.getD k Sm.zero).beq (b.sums.getD k Sm.zero)))) (congrArg not (hb4)) ?_ ?_;apply qk;apply ag;apply ab;apply zZ (mT [] [44]) id;apply qo;apply qr 1;refine qy (aA (a:=((k:Nat):Int)) (b:=1) kq nl nl) ?_ ?_ ?_;apply qr 1;apply qe;refine ab ⟨k+1,?_,?_,(fg kq kq az (by simp [ax.belO]))⟩
 . omega
 . refine ⟨by omega,fun i hi=>?_⟩;rcases Nat.lt_succ_iff_lt_or_eq.1 hi with h|h
   . exact hak i h
   . subst h;simp_all
 iterate 9 kernel_rfl
 refine qt (x:=(!((a.sums.getD k Sm.zero).beq (b.sums.getD k Sm.zero)))) (congrArg not (Bool.eq_false_iff.2 hb4)) ?_ ?_;apply zV 1;apply qT;apply iR;apply aR;apply aR;apply iR;apply aR;refine aJ (b:=false) (.inr rfl) kq ?_
 rotate_left
 iterate 22 kernel_rfl
 apply qf (decide_eq_false hb3);refine aK 0 kq kq ?_;apply ac;apply ac;apply au;apply ab;apply zZ (mT [] [5,29]) id;apply ao;apply zW 1 (mU [(7,.int .i64 0)]) id;apply qB 2;refine aU (σ:=Nat) (fun q=>[(2,.ptr 0 0),(3,.ptr 1 0),(7,.int .i64 ((q:Nat):Int))]) (fun q=>[.box [.imm (a.sums.map Sm.v),.imm (a.tabs.map Tb.v)],.box [.imm (b.sums.map Sm.v),.imm (b.tabs.map Tb.v)]]) (fun q=>q<=a.tabs.length/\∀ i,i<q->(a.tabs.getD i Tb.zero).beq (b.tabs.getD i Tb.zero)=true) (fun q=>a.tabs.length - q) 0 kq (by exact ⟨Nat.zero_le _,fun i h=>absurd h (Nat.not_lt_zero i)⟩) (fg kq kq az (by simp [ax.belO])) ?_;rintro q ⟨hkq,haq⟩;apply ao;apply zV 3;refine qy (aw (l:=a.tabs) (enc:=Tb.v) kq b7) ?_ ?_ ?_;apply zR 1 (mU [(49,.bool (decide (((q:Nat):Int)<((a.tabs.length:Nat):Int))))]) id;by_cases hb5:((q:Nat):Int)<((a.tabs.length:Nat):Int);apply qt (decide_eq_true hb5);apply qK;apply zZ (mT [] [49]) id;apply ao;apply qB 3;apply ao;refine zD cxM kq aj ?_;apply qu 3;refine qd ((av (k:=.i64) (l:=a.tabs) (enc:=Tb.v) (i:=((q:Nat):Int)) Tb.zero kq b7 cN (fun _=>rfl) nl nl).trans (congrArg (fun cs=>some (aa.pimm cs 0,_)) (cQ (a.tabs.getD q Tb.zero)))) ?_ ?_ ?_ ?_;apply qu 4;refine qd ((av (k:=.i64) (l:=b.tabs) (enc:=Tb.v) (i:=((q:Nat):Int)) Tb.zero kq b7 cN (fun _=>rfl) nl nl).trans (congrArg (fun cs=>some (aa.pimm cs 0,_)) (cQ (b.tabs.getD q Tb.zero)))) ?_ ?_ ?_ ?_;apply qu 1;refine qQ (w7 (a.tabs.getD q Tb.zero) (b.tabs.getD q Tb.zero) nl) aH aH aH kq ?_;apply qu 1;refine bh kq ⟨kq,?_⟩;apply zE (mU [(8,.bool ((a.tabs.getD q Tb.zero).beq (b.tabs.getD q Tb.zero)))]) id;apply zW 2 (mT [(64,.bool (!((a.tabs.getD q Tb.zero).beq (b.tabs.getD q Tb.zero))))] [8]) id;by_cases hb6:((a.tabs.getD q Tb.zero).beq (b.tabs.getD q Tb.zero))=true;refine qf (x:=(!((a.tabs.getD q Tb.zero).beq (b.tabs.getD q Tb.zero)))) (congrArg not (hb6)) ?_ ?_;apply qk;apply ag;apply ab;apply zZ (mT [] [64]) id;apply qo;apply qr 1;refine qy (aA (a:=((q:Nat):Int)) (b:=1) kq nl nl) ?_ ?_ ?_;apply qr 1;apply qe;refine ab ⟨q+1,?_,?_,(fg kq kq az (by simp [ax.belO]))⟩
 . omega
 . refine ⟨by omega,fun i hi=>?_⟩;rcases Nat.lt_succ_iff_lt_or_eq.1 hi with h|h
   . exact haq i h
   . subst h;simp_all
 iterate 9 kernel_rfl
 refine qt (x:=(!((a.tabs.getD q Tb.zero).beq (b.tabs.getD q Tb.zero)))) (congrArg not (Bool.eq_false_iff.2 hb6)) ?_ ?_;apply zV 1;apply qT;apply iR;apply aR;apply aR;apply iR;apply aR;refine aJ (b:=false) (.inr rfl) kq ?_
 rotate_left
 iterate 22 kernel_rfl
 apply qf (decide_eq_false hb5);refine aK 2 kq kq ?_;apply ac;apply ac;apply au;apply ab;refine zZ (fun _=>[]) (fun _=>[.box [.imm (a.sums.map Sm.v),.imm (a.tabs.map Tb.v)],.box [.imm (b.sums.map Sm.v),.imm (b.tabs.map Tb.v)]]) ?_ ?_;apply zV 1;apply qT;refine aJ (b:=true) (.inr rfl) kq ?_
 rotate_left
 iterate 27 kernel_rfl
 refine qt (x:=(((a.tabs.length:Nat):Int) != ((b.tabs.length:Nat):Int))) (bne_iff_ne.2 hb2) ?_ ?_;apply zV 1;apply qT;apply aR;refine aJ (b:=false) (.inr rfl) kq ?_
 rotate_left
 iterate 11 kernel_rfl
 refine zm [15,16] (x:=(((a.sums.length:Nat):Int) != ((b.sums.length:Nat):Int))) (bne_iff_ne.2 hb1) ?_ ?_;refine zR 8 (fun _=>[(2,.ptr 0 0),(3,.ptr 1 0),(24,.bool true)]) (fun _=>[.box [.imm (a.sums.map Sm.v),.imm (a.tabs.map Tb.v)],.box [.imm (b.sums.map Sm.v),.imm (b.tabs.map Tb.v)]]) ?_ ?_;refine cJ kq kq ?_;apply zV 1;apply qT;apply aR;refine aJ (b:=false) (.inr rfl) kq ?_
 rotate_left
 iterate 14 kernel_rfl
 all_goals
  refine Eq.trans ?_ (show (bX Sm.beq a.sums b.sums && bX Tb.beq a.tabs b.tabs)=a.beq b from rfl)
  first|(simp only [dg Sm.beq a.sums b.sums oq,Bool.and_false,Bool.false_and];done)|(simp only [dg Tb.beq a.tabs b.tabs oq,Bool.and_false,Bool.false_and];done)|(rw [cd Sm.beq Sm.zero Sm.zero a.sums b.sums oq (fun i hi=>hak i oq),cd Tb.beq Tb.zero Tb.zero a.tabs b.tabs oq (fun i hi=>haq i oq)];rfl)|(rw [dX Tb.beq Tb.zero Tb.zero a.tabs b.tabs q oq oq (by simp_all)];simp;done)|(rw [dX Sm.beq Sm.zero Sm.zero a.sums b.sums k oq oq (by simp_all)];simp;done)|(simp_all;done)
def gC (x m:Int):Int:=if x<0 then (-(x+1)).tmod m else x.tmod m
def ah (l:List Int) (q:Nat) (m:Int):Int:=if q<l.length then gC (l.getD q 0) m else 0
def ji (l:List Int):Prop:=∀ x∈l,-9223372036854775808<=x/\x<=9223372036854775807
theorem qq {l:List Int} (h:ji l) (i:Nat):-9223372036854775808<=l.getD i 0/\l.getD i 0<=9223372036854775807:=by
 by_cases hi:i<l.length
 . rw [List.getD_eq_getElem?_getD,List.getElem?_eq_getElem hi];exact h _ (List.getElem_mem hi)
 . rw [List.getD_eq_getElem?_getD,List.getElem?_eq_none oq];simp
theorem qj {x m:Int} (hx:0<=x) (hm:0<m):0<=x.tmod m/\x.tmod m<m:=by
 rw [Int.tmod_eq_emod_of_nonneg hx];exact ⟨Int.emod_nonneg _ oq,Int.emod_lt_of_pos _ hm⟩
theorem ze (x m:Int) (hm:0<m):0<=gC x m/\gC x m<m:=by
 unfold gC;split
 . exact qj oq hm
 . exact qj oq hm
theorem a6 (l:List Int) (q:Nat) (m:Int) (hm:0<m):0<=ah l q m/\ah l q m<m:=by
 unfold ah;split
 . exact ze _ _ hm
 . omega
theorem ya {l:List Int} {q:Nat} {m:Int} (h:q<l.length):ah l q m=gC (l.getD q 0) m:=by rw [ah,if_pos h]
theorem CQ {l:List Int} {q:Nat} {m:Int} (h:¬ q<l.length):ah l q m=0:=by rw [ah,if_neg h]
noncomputable def c13:Code:=aF Tryz.f13
theorem xv (x m:Int) (hx:-9223372036854775808<=x/\x<=9223372036854775807) (hm:0<m):af cx 13 [.int .i64 (x),.int .i64 (m)] (.int .i64 (gC x m)):=by
 refine am (cx:=cx) 13 0 [(ResultVar.tmp 4)] Tryz.func13 rfl rfl rfl rfl rfl zq ?_;show wpA cx 13 0 (at_ c13 []) _ _ _;refine zZ (fun _=>[(0,.int .i64 (x)),(1,.int .i64 (m))]) (fun _=>[]) ?_ ?_;apply zW 1 id id;apply ao;apply zW 2 (mU [(6,.bool (decide ((x)<0)))]) id;by_cases hb1:(x)<0;apply qt (decide_eq_true hb1);apply qo;apply qr 1;refine qy (aA (a:=(x)) (b:=1) kq oq oq) ?_ ?_ ?_;refine qy (OG (a:=((x)+1)) kq oq oq) ?_ ?_ ?_;apply qR 1 [(0,.int .i64 (-((x)+1))),(1,.int .i64 (m))] [];apply zV 2;refine qy (BN (a:=(-((x)+1))) (b:=(m)) kq oq) ?_ ?_ ?_;apply qX 1;refine fe (n:=((-((x)+1)).tmod (m))) (.inr rfl) kq ?_
 . simp [gC, *]
 iterate 12 kernel_rfl
 apply qf (decide_eq_false hb1);apply qK;refine zZ (fun _=>[(0,.int .i64 (x)),(1,.int .i64 (m))]) (fun _=>[]) ?_ ?_;apply zV 2;refine qy (BN (a:=(x)) (b:=(m)) kq oq) ?_ ?_ ?_;apply qX 1;refine fe (n:=((x).tmod (m))) (.inr rfl) kq ?_
 . simp [gC, *]
 iterate 11 kernel_rfl
noncomputable def c15:Code:=aF Tryz.f15
theorem bm (l:List Int) (q:Nat) (m:Int) (hl:ji l) (hm:0<m):af cx 15 [.imm (l.map (aa.int .i64)),.int .i64 ((q:Nat):Int),.int .i64 (m)] (.int .i64 (ah l q m)):=by
 refine am (cx:=cx) 21 0 [(ResultVar.tmp 6)] Tryz.func15 rfl rfl rfl rfl rfl zq ?_;show wpA cx 21 0 (at_ c15 []) _ _ _;refine zZ (fun _=>[(0,.imm (l.map (aa.int .i64))),(1,nI q),(2,.int .i64 (m))]) (fun _=>[]) ?_ ?_;apply zW 1 id id;apply ao;apply zV 3;by_cases hb1:((q:Nat):Int)<0;apply zm [8,9] (decide_eq_true hb1);refine zR 5 (fun _=>[(0,.imm (l.map (aa.int .i64))),(1,nI q),(2,.int .i64 (m)),(14,.bool true)]) (fun _=>[]) ?_ ?_;refine cJ kq kq ?_;apply zV 1;apply qT;apply aR;refine fe (n:=0) (.inr rfl) kq ?_
 rotate_left
 iterate 4 kernel_rfl
 apply zm [8,9] (decide_eq_false hb1);apply qr 2;refine qy (aw (l:=l) (enc:=(aa.int .i64)) kq yJ) ?_ ?_ ?_;refine zR 2 (fun _=>[(0,.imm (l.map (aa.int .i64))),(1,nI q),(2,.int .i64 (m)),(14,.bool (decide (((q:Nat):Int) >= ((l.length:Nat):Int))))]) (fun _=>[]) ?_ ?_;by_cases hb2:((q:Nat):Int) >= ((l.length:Nat):Int);apply qt (decide_eq_true hb2);apply zV 1;apply qT;apply aR;refine fe (n:=0) (.inr rfl) kq ?_
 rotate_left
 iterate 3 kernel_rfl
 apply qf (decide_eq_false hb2);apply qK;refine zZ (fun _=>[(0,.imm (l.map (aa.int .i64))),(1,nI q),(2,.int .i64 (m))]) (fun _=>[]) ?_ ?_;apply zV 2;refine qy (av (k:=.i64) (l:=l) (enc:=(aa.int .i64)) (i:=((q:Nat):Int)) 0 kq yJ ty3 (fun _=>rfl) (by first|omega|exact qq hl _|assumption|decide) (by first|omega|exact qq hl _|assumption|decide)) ?_ ?_ ?_;apply qr 2;refine qc [.int .i64 ((l.getD q 0)),.int .i64 (m)] (xv ((l.getD q 0)) (m) (by first|omega|exact qq hl _|assumption|decide) (by first|omega|exact qq hl _|assumption|decide)) ?_ ?_;apply qX 1;refine fe (n:=(gC ((l.getD q 0)) (m))) (.inr rfl) kq ?_
 rotate_left
 iterate 18 kernel_rfl
 all_goals
  first|(exfalso;omega)|(rw [ya oq];done)|(rw [ya oq];simp;done)|(rw [CQ oq];done)
end Go.Proofs.YtcpklndelobigaaGreatDoor
