/- A part of the proof: plain lemmas and walks. No condition. -/
import Derived.Test.YtcpklndelobigaaGreatDoorNC
set_option linter.all false
namespace Go.Proofs.YtcpklndelobigaaGreatDoor
open Go.Proofs.YtcpklndelobigaaGreatDoor.Abs
set_option maxRecDepth 20000
set_option maxHeartbeats 4000000
abbrev FC (l:List (Sm))(k:Nat)(f:Sm->List UInt8):=(([]:List (List UInt8))++(l.take k).map f)
abbrev F9 :=(mU [(5,.full [])])
abbrev KL :=mT [] [1,8,9,10,11]
abbrev H6 :=mU [(7,.ptr 1 0)]
abbrev yD (l:List (Sm))(k:Nat):=l.getD k Sm.zero
theorem I5 (l:List (Sm)) (g:Nat) (f:Sm->List UInt8) (hg:∀ x∈l,ae cx g [x.v] (.str (f x))) (hn:l.length<1000000000):ae cx 113 [.imm (l.map Sm.v),.fn (.func g) [] []] (.imm ((l.map f).map aa.str)):=by
 refine fI 22 0 [fw] Tryz.func113 kq ?_;refine zZ (fun _=>[(0,.imm (l.map Sm.v)),(1,.fn (.func g) [] [])]) (fun _=>[]) ?_ ?_;apply zW 1 id id;apply zW 1 F9 id;refine jg 5 1 dq kq ?_;apply zZ (mK 1 [] []) (mO [(0,.arr 1 lx 0)]);apply ai;apply zV 1;refine qy (aj (l:=l) (enc:=Sm.v) kq di) ?_ ?_ ?_;apply zR 1 (mT [(8,.imm (l.map Sm.v)),(9,nI l.length),(10,.int .i64 0)] [0]) id;apply qB 0;refine aT (σ:=Nat) (fun k=>[(1,.fn (.func g) [] []),(5,.own 0 0 (([]:List bz)++(l.take k).map f).length),(8,.imm (l.map Sm.v)),(9,.int .i64 ((l.length:Nat):Int)),(10,.int .i64 ((k:Nat):Int))]) (fun k=>[.arr 1 ((([]:List bz)++(l.take k).map f).map aa.str) 0]) (fun k=>k<=l.length) (fun k=>l.length - k) 0 kq i3 (fg kq kq aA bV) ?_;rintro k hk;have hl1:(([]:List bz)++(l.take k).map f).length<=k:=by simp only [List.nil_append,List.length_map,List.length_take];omega
 apply zW 1 (mU [(11,.bool (decide (((k:Nat):Int)<((l.length:Nat):Int))))]) id;apply ai;by_cases hb1:((k:Nat):Int)<((l.length:Nat):Int);apply qt (decide_eq_true hb1);apply qK;apply zZ (mT [] [11]) id;apply ai;apply qB 1;refine zO ?_ ?_;refine qy ((au (k:=.i64) (l:=l) (enc:=Sm.v) (i:=((k:Nat):Int)) Sm.zero kq di e9 (fun _=>rfl) ar ar).trans (congrArg (fun cs=>some (aa.pimm cs 0,_)) (cr (yD l k)))) ?_ ?_ ?_;apply zR 3 H6 (mH [] [.box [.str (yD l k).name,.imm ((yD l k).ctors.map Ct.v)]]);apply qo;apply qr 3;refine qP (hg _ (aH l Sm.zero k oq)) bk bk jO kq ?_;apply qr 1;refine qY (aX (o:=0) (len:=((FC l k f).length)) (l:=(FC l k f)) (xs:=[(f (yD l k))]) (enc:=aa.str) (sz:=1) (fr:=0) (x:=(.full [.str (f (yD l k))])) kq a6 ty9 a6 rfl kq rfl ez kq ⟨by decide,da⟩ (fun _=>rfl) bm bm) ?_ ?_ ?_;apply qr 1;apply qe;refine ag ?_;apply ab;refine zZ (fun _=>[(1,.fn (.func g) [] []),(5,.own 0 0 ((FC l k f)++[(f (yD l k))]).length),(8,.imm (l.map Sm.v)),(9,nI l.length),(10,nI k)]) (fun _=>[.arr 1 (((FC l k f)++[(f (yD l k))]).map aa.str) 0,.box [.str (yD l k).name,.imm ((yD l k).ctors.map Ct.v)]]) ?_ ?_;apply qo;refine qy (az (a:=((k:Nat):Int)) (b:=1) kq ar ar) ?_ ?_ ?_;apply qr 1;apply qe;refine ab ⟨k+1,?_,?_,⟨⟨kq,(hT (by rw [js (L:=l) (d:=Sm.zero) oq]) kq),kq,kq,kq,trivial⟩,aA,by simp,(hT (by rw [js (L:=l) (d:=Sm.zero) oq]) kq),bV⟩⟩
 . omega
 . omega
 iterate 23 kernel_rfl
 apply qf (decide_eq_false hb1);refine aK 0 kq kq ?_;apply ac;apply ac;refine ao ?_;apply ab;apply zZ KL id;refine zW 2 (fun _=>[(4,.own 0 0 (FC l k f).length)]) (fun _=>[.arr 1 ((FC l k f).map aa.str) 0]) ?_ ?_;refine aJ kq ?_;refine cd (l:=[.own 0 0 (([]:List bz)++(l.take k).map f).length]) (.inr rfl) kq ?_
 . have e_:k=l.length:=by omega
   subst e_;rw [List.take_length];simp [aZ,aa.frz,aN,cw,cQ,-List.map_map]
 iterate 16 kernel_rfl
abbrev NE :=mO [(0,.arr 1 (([]:List bz).map aa.str) 0)]
theorem H9 (l:List (Tb)) (g:Nat) (f:Tb->List UInt8) (hg:∀ x∈l,ae cx g [x.v] (.str (f x))) (hn:l.length<1000000000):ae cx 115 [.imm (l.map Tb.v),.fn (.func g) [] []] (.imm ((l.map f).map aa.str)):=by
 refine fI 22 0 [fw] Tryz.func115 kq ?_;refine zZ (fun _=>[(xx l),(1,.fn (.func g) [] [])]) (fun _=>[]) ?_ ?_;apply zW 1 id id;apply zW 1 F9 id;refine jg 5 1 dq kq ?_;apply zZ (mK 1 [] []) NE;apply ai;apply zV 1;refine qy (aj (l:=l) (enc:=Tb.v) kq cD) ?_ ?_ ?_;apply zR 1 (mT [(8,.imm (l.map Tb.v)),(9,nI l.length),(10,.int .i64 0)] [0]) id;apply qB 0;refine aT (σ:=Nat) (fun k=>[(1,.fn (.func g) [] []),(5,.own 0 0 (([]:List bz)++(l.take k).map f).length),(8,.imm (l.map Tb.v)),(9,.int .i64 ((l.length:Nat):Int)),(10,.int .i64 ((k:Nat):Int))]) (fun k=>[.arr 1 ((([]:List bz)++(l.take k).map f).map aa.str) 0]) (fun k=>k<=l.length) (fun k=>l.length - k) 0 kq i3 (fg kq kq aA bV) ?_;rintro k hk;have hl1:(([]:List bz)++(l.take k).map f).length<=k:=by simp only [List.nil_append,List.length_map,List.length_take];omega
 apply zW 1 (mU [(11,.bool (decide (((k:Nat):Int)<((l.length:Nat):Int))))]) id;apply ai;by_cases hb1:((k:Nat):Int)<((l.length:Nat):Int);apply qt (decide_eq_true hb1);apply qK;apply zZ (mT [] [11]) id;apply ai;apply qB 1;refine zO ?_ ?_;refine qy ((au (k:=.i64) (l:=l) (enc:=Tb.v) (i:=((k:Nat):Int)) Tb.zero kq cD d3 (fun _=>rfl) ar ar).trans (congrArg (fun cs=>some (aa.pimm cs 0,_)) (cL (fY l k)))) ?_ ?_ ?_;apply zR 3 H6 (mH [] [.box (Tb.cs (fY l k))]);apply qo;apply qr 3;refine qP (hg _ (aH l Tb.zero k oq)) bk bk jO kq ?_;apply qr 1;refine qY (aX (o:=0) (len:=((([]:List bz)++(l.take k).map f).length)) (l:=(([]:List bz)++(l.take k).map f)) (xs:=[(f (fY l k))]) (enc:=aa.str) (sz:=1) (fr:=0) (x:=(.full [.str (f (fY l k))])) kq a6 ty9 a6 rfl kq rfl ez kq ⟨by decide,da⟩ (fun _=>rfl) bm bm) ?_ ?_ ?_;apply qr 1;apply qe;refine ag ?_;apply ab;refine zZ (fun _=>[(1,.fn (.func g) [] []),(5,.own 0 0 ((([]:List bz)++(l.take k).map f)++[(f (fY l k))]).length),(8,.imm (l.map Tb.v)),(9,nI l.length),(10,nI k)]) (fun _=>[.arr 1 (((([]:List bz)++(l.take k).map f)++[(f (fY l k))]).map aa.str) 0,.box (Tb.cs (fY l k))]) ?_ ?_;apply qo;refine qy (az (a:=((k:Nat):Int)) (b:=1) kq ar ar) ?_ ?_ ?_;apply qr 1;apply qe;refine ab ⟨k+1,?_,?_,⟨⟨kq,(hT (by rw [js (L:=l) (d:=Tb.zero) oq]) kq),kq,kq,kq,trivial⟩,aA,by simp,(hT (by rw [js (L:=l) (d:=Tb.zero) oq]) kq),bV⟩⟩
 . omega
 . omega
 iterate 23 kernel_rfl
 apply qf (decide_eq_false hb1);refine aK 0 kq kq ?_;apply ac;apply ac;refine ao ?_;apply ab;apply zZ KL id;refine zW 2 (fun _=>[(4,.own 0 0 (([]:List bz)++(l.take k).map f).length)]) (fun _=>[.arr 1 ((([]:List bz)++(l.take k).map f).map aa.str) 0]) ?_ ?_;refine aJ kq ?_;refine cd (l:=[.own 0 0 (([]:List bz)++(l.take k).map f).length]) (.inr rfl) kq ?_
 . have e_:k=l.length:=by omega
   subst e_;rw [List.take_length];simp [aZ,aa.frz,aN,cw,cQ,-List.map_map]
 iterate 16 kernel_rfl
abbrev kB (l:List (Ct))(k:Nat):=l.getD k Ct.zero
theorem Q2 (l:List (Ct)) (g:Nat) (f:Ct->List UInt8) (hg:∀ x∈l,ae cx g [x.v] (.str (f x))) (hn:l.length<1000000000):ae cx 117 [.imm (l.map Ct.v),.fn (.func g) [] []] (.imm ((l.map f).map aa.str)):=by
 refine fI 22 0 [fw] Tryz.func117 kq ?_;refine zZ (fun _=>[(0,.imm (l.map Ct.v)),(1,.fn (.func g) [] [])]) (fun _=>[]) ?_ ?_;apply zW 1 id id;apply zW 1 F9 id;refine jg 5 1 dq kq ?_;apply zZ (mK 1 [] []) NE;apply ai;apply zV 1;refine qy (aj (l:=l) (enc:=Ct.v) kq gM) ?_ ?_ ?_;apply zR 1 (mT [(8,.imm (l.map Ct.v)),(9,nI l.length),(10,.int .i64 0)] [0]) id;apply qB 0;refine aT (σ:=Nat) (fun k=>[(1,.fn (.func g) [] []),(5,.own 0 0 (([]:List bz)++(l.take k).map f).length),(8,.imm (l.map Ct.v)),(9,.int .i64 ((l.length:Nat):Int)),(10,.int .i64 ((k:Nat):Int))]) (fun k=>[.arr 1 ((([]:List bz)++(l.take k).map f).map aa.str) 0]) (fun k=>k<=l.length) (fun k=>l.length - k) 0 kq i3 (fg kq kq aA bV) ?_;rintro k hk;have hl1:(([]:List bz)++(l.take k).map f).length<=k:=by simp only [List.nil_append,List.length_map,List.length_take];omega
 apply zW 1 (mU [(11,.bool (decide (((k:Nat):Int)<((l.length:Nat):Int))))]) id;apply ai;by_cases hb1:((k:Nat):Int)<((l.length:Nat):Int);apply qt (decide_eq_true hb1);apply qK;apply zZ (mT [] [11]) id;apply ai;apply qB 1;refine zO ?_ ?_;refine qy ((au (k:=.i64) (l:=l) (enc:=Ct.v) (i:=((k:Nat):Int)) Ct.zero kq gM mn (fun _=>rfl) ar ar).trans (congrArg (fun cs=>some (aa.pimm cs 0,_)) (fW (kB l k)))) ?_ ?_ ?_;apply zR 3 H6 (mH [] [.box [.str (kB l k).name,.bool ((kB l k).has),.int .i64 ((kB l k).arg.kind),.str (kB l k).arg.name,.int .i64 ((kB l k).arg.n),.imm ((kB l k).arg.names.map aa.str),.imm ((kB l k).arg.kids.map Ty.enc)]]);apply qo;apply qr 3;refine qP (hg _ (aH l Ct.zero k oq)) bk bk jO kq ?_;apply qr 1;refine qY (aX (o:=0) (len:=((([]:List bz)++(l.take k).map f).length)) (l:=(([]:List bz)++(l.take k).map f)) (xs:=[(f (kB l k))]) (enc:=aa.str) (sz:=1) (fr:=0) (x:=(.full [.str (f (kB l k))])) kq a6 ty9 a6 rfl kq rfl ez kq ⟨by decide,da⟩ (fun _=>rfl) bm bm) ?_ ?_ ?_;apply qr 1;apply qe;refine ag ?_;apply ab;refine zZ (fun _=>[(1,.fn (.func g) [] []),(5,.own 0 0 ((([]:List bz)++(l.take k).map f)++[(f (kB l k))]).length),(8,.imm (l.map Ct.v)),(9,nI l.length),(10,nI k)]) (fun _=>[.arr 1 (((([]:List bz)++(l.take k).map f)++[(f (kB l k))]).map aa.str) 0,.box [.str (kB l k).name,.bool ((kB l k).has),.int .i64 ((kB l k).arg.kind),.str (kB l k).arg.name,.int .i64 ((kB l k).arg.n),.imm ((kB l k).arg.names.map aa.str),.imm ((kB l k).arg.kids.map Ty.enc)]]) ?_ ?_;apply qo;refine qy (az (a:=((k:Nat):Int)) (b:=1) kq ar ar) ?_ ?_ ?_;apply qr 1;apply qe;refine ab ⟨k+1,?_,?_,⟨⟨kq,(hT (by rw [js (L:=l) (d:=Ct.zero) oq]) kq),kq,kq,kq,trivial⟩,aA,by simp,(hT (by rw [js (L:=l) (d:=Ct.zero) oq]) kq),bV⟩⟩
 . omega
 . omega
 iterate 23 kernel_rfl
 apply qf (decide_eq_false hb1);refine aK 0 kq kq ?_;apply ac;apply ac;refine ao ?_;apply ab;apply zZ KL id;refine zW 2 (fun _=>[(4,.own 0 0 (([]:List bz)++(l.take k).map f).length)]) (fun _=>[.arr 1 ((([]:List bz)++(l.take k).map f).map aa.str) 0]) ?_ ?_;refine aJ kq ?_;refine cd (l:=[.own 0 0 (([]:List bz)++(l.take k).map f).length]) (.inr rfl) kq ?_
 . have e_:k=l.length:=by omega
   subst e_;rw [List.take_length];simp [aZ,aa.frz,aN,cw,cQ,-List.map_map]
 iterate 16 kernel_rfl
theorem QG (l:List (Co)) (g:Nat) (f:Co->List UInt8) (hg:∀ x∈l,ae cx g [x.v] (.str (f x))) (hn:l.length<1000000000):ae cx 120 [.imm (fi l),.fn (.func g) [] []] (.imm ((l.map f).map aa.str)):=by
 refine fI 22 0 [fw] Tryz.func120 kq ?_;refine zZ (fun _=>[(0,.imm (fi l)),(1,.fn (.func g) [] [])]) (fun _=>[]) ?_ ?_;apply zW 1 id id;apply zW 1 F9 id;refine jg 5 1 dq kq ?_;apply zZ (mK 1 [] []) NE;apply ai;apply zV 1;refine qy (aj (l:=l) (enc:=Co.v) kq em) ?_ ?_ ?_;apply zR 1 (mT [(8,.imm (fi l)),(9,nI l.length),(10,.int .i64 0)] [0]) id;apply qB 0;refine aT (σ:=Nat) (fun k=>[(1,.fn (.func g) [] []),(5,.own 0 0 (([]:List bz)++(l.take k).map f).length),(8,.imm (fi l)),(9,.int .i64 ((l.length:Nat):Int)),(10,.int .i64 ((k:Nat):Int))]) (fun k=>[.arr 1 ((([]:List bz)++(l.take k).map f).map aa.str) 0]) (fun k=>k<=l.length) (fun k=>l.length - k) 0 kq i3 (fg kq kq aA bV) ?_;rintro k hk;have hl1:(([]:List bz)++(l.take k).map f).length<=k:=by simp only [List.nil_append,List.length_map,List.length_take];omega
 apply zW 1 (mU [(11,.bool (decide (((k:Nat):Int)<((l.length:Nat):Int))))]) id;apply ai;by_cases hb1:((k:Nat):Int)<((l.length:Nat):Int);apply qt (decide_eq_true hb1);apply qK;apply zZ (mT [] [11]) id;apply ai;apply qB 1;refine zO ?_ ?_;refine qy ((au (k:=.i64) (l:=l) (enc:=Co.v) (i:=((k:Nat):Int)) Co.zero kq em j5 (fun _=>rfl) ar ar).trans (congrArg (fun cs=>some (aa.pimm cs 0,_)) (de (dw l k)))) ?_ ?_ ?_;apply zR 3 H6 (mH [] [.box [.str (dw l k).name,.int .i64 ((dw l k).type.kind),.str (dw l k).type.name,.int .i64 ((dw l k).type.n),.imm ((dw l k).type.names.map aa.str),.imm ((dw l k).type.kids.map Ty.enc)]]);apply qo;apply qr 3;refine qP (hg _ (aH l Co.zero k oq)) bk bk jO kq ?_;apply qr 1;refine qY (aX (o:=0) (len:=((([]:List bz)++(l.take k).map f).length)) (l:=(([]:List bz)++(l.take k).map f)) (xs:=[(f (dw l k))]) (enc:=aa.str) (sz:=1) (fr:=0) (x:=(.full [.str (f (dw l k))])) kq a6 ty9 a6 rfl kq rfl ez kq ⟨by decide,da⟩ (fun _=>rfl) bm bm) ?_ ?_ ?_;apply qr 1;apply qe;refine ag ?_;apply ab;refine zZ (fun _=>[(1,.fn (.func g) [] []),(5,.own 0 0 ((([]:List bz)++(l.take k).map f)++[(f (dw l k))]).length),(8,.imm (fi l)),(9,nI l.length),(10,nI k)]) (fun _=>[.arr 1 (((([]:List bz)++(l.take k).map f)++[(f (dw l k))]).map aa.str) 0,.box [.str (dw l k).name,.int .i64 ((dw l k).type.kind),.str (dw l k).type.name,.int .i64 ((dw l k).type.n),.imm ((dw l k).type.names.map aa.str),.imm ((dw l k).type.kids.map Ty.enc)]]) ?_ ?_;apply qo;refine qy (az (a:=((k:Nat):Int)) (b:=1) kq ar ar) ?_ ?_ ?_;apply qr 1;apply qe;refine ab ⟨k+1,?_,?_,⟨⟨kq,(hT (by rw [js (L:=l) (d:=Co.zero) oq]) kq),kq,kq,kq,trivial⟩,aA,by simp,(hT (by rw [js (L:=l) (d:=Co.zero) oq]) kq),bV⟩⟩
 . omega
 . omega
 iterate 23 kernel_rfl
 apply qf (decide_eq_false hb1);refine aK 0 kq kq ?_;apply ac;apply ac;refine ao ?_;apply ab;apply zZ KL id;refine zW 2 (fun _=>[(4,.own 0 0 (([]:List bz)++(l.take k).map f).length)]) (fun _=>[.arr 1 ((([]:List bz)++(l.take k).map f).map aa.str) 0]) ?_ ?_;refine aJ kq ?_;refine cd (l:=[.own 0 0 (([]:List bz)++(l.take k).map f).length]) (.inr rfl) kq ?_
 . have e_:k=l.length:=by omega
   subst e_;rw [List.take_length];simp [aZ,aa.frz,aN,cw,cQ,-List.map_map]
 iterate 16 kernel_rfl
theorem P3 (l:List (Rf)) (g:Nat) (f:Rf->List UInt8) (hg:∀ x∈l,ae cx g [x.v] (.str (f x))) (hn:l.length<1000000000):ae cx 122 [.imm (fy l),.fn (.func g) [] []] (.imm ((l.map f).map aa.str)):=by
 refine fI 22 0 [fw] Tryz.func122 kq ?_;refine zZ (fun _=>[(0,.imm (fy l)),(1,.fn (.func g) [] [])]) (fun _=>[]) ?_ ?_;apply zW 1 id id;apply zW 1 F9 id;refine jg 5 1 dq kq ?_;apply zZ (mK 1 [] []) NE;apply ai;apply zV 1;refine qy (aj (l:=l) (enc:=Rf.v) kq ge) ?_ ?_ ?_;apply zR 1 (mT [(8,.imm (fy l)),(9,nI l.length),(10,.int .i64 0)] [0]) id;apply qB 0;refine aT (σ:=Nat) (fun k=>[(1,.fn (.func g) [] []),(5,.own 0 0 (([]:List bz)++(l.take k).map f).length),(8,.imm (fy l)),(9,.int .i64 ((l.length:Nat):Int)),(10,.int .i64 ((k:Nat):Int))]) (fun k=>[.arr 1 ((([]:List bz)++(l.take k).map f).map aa.str) 0]) (fun k=>k<=l.length) (fun k=>l.length - k) 0 kq i3 (fg kq kq aA bV) ?_;rintro k hk;have hl1:(([]:List bz)++(l.take k).map f).length<=k:=by simp only [List.nil_append,List.length_map,List.length_take];omega
 apply zW 1 (mU [(11,.bool (decide (((k:Nat):Int)<((l.length:Nat):Int))))]) id;apply ai;by_cases hb1:((k:Nat):Int)<((l.length:Nat):Int);apply qt (decide_eq_true hb1);apply qK;apply zZ (mT [] [11]) id;apply ai;apply qB 1;refine zO ?_ ?_;refine qy ((au (k:=.i64) (l:=l) (enc:=Rf.v) (i:=((k:Nat):Int)) Rf.zero kq ge mW (fun _=>rfl) ar ar).trans (congrArg (fun cs=>some (aa.pimm cs 0,_)) (eK (eF l k)))) ?_ ?_ ?_;apply zR 3 H6 (mH [] [.box [.str (eF l k).col,.str (eF l k).tab]]);apply qo;apply qr 3;refine qc [.agg [.str (eF l k).col,.str (eF l k).tab]] (hg _ (aH l Rf.zero k oq)) ?_ ?_;apply qr 1;refine qY (aX (o:=0) (len:=((([]:List bz)++(l.take k).map f).length)) (l:=(([]:List bz)++(l.take k).map f)) (xs:=[(f (eF l k))]) (enc:=aa.str) (sz:=1) (fr:=0) (x:=(.full [.str (f (eF l k))])) kq a6 ty9 a6 rfl kq rfl ez kq ⟨by decide,da⟩ (fun _=>rfl) bm bm) ?_ ?_ ?_;apply qr 1;apply qe;refine ag ?_;apply ab;refine zZ (fun _=>[(1,.fn (.func g) [] []),(5,.own 0 0 ((([]:List bz)++(l.take k).map f)++[(f (eF l k))]).length),(8,.imm (fy l)),(9,nI l.length),(10,nI k)]) (fun _=>[.arr 1 (((([]:List bz)++(l.take k).map f)++[(f (eF l k))]).map aa.str) 0,.box [.str (eF l k).col,.str (eF l k).tab]]) ?_ ?_;apply qo;refine qy (az (a:=((k:Nat):Int)) (b:=1) kq ar ar) ?_ ?_ ?_;apply qr 1;apply qe;refine ab ⟨k+1,?_,?_,⟨⟨kq,(hT (by rw [js (L:=l) (d:=Rf.zero) oq]) kq),kq,kq,kq,trivial⟩,aA,by simp,(hT (by rw [js (L:=l) (d:=Rf.zero) oq]) kq),bV⟩⟩
 . omega
 . omega
 iterate 24 kernel_rfl
 apply qf (decide_eq_false hb1);refine aK 0 kq kq ?_;apply ac;apply ac;refine ao ?_;apply ab;apply zZ KL id;refine zW 2 (fun _=>[(4,.own 0 0 (([]:List bz)++(l.take k).map f).length)]) (fun _=>[.arr 1 ((([]:List bz)++(l.take k).map f).map aa.str) 0]) ?_ ?_;refine aJ kq ?_;refine cd (l:=[.own 0 0 (([]:List bz)++(l.take k).map f).length]) (.inr rfl) kq ?_
 . have e_:k=l.length:=by omega
   subst e_;rw [List.take_length];simp [aZ,aa.frz,aN,cw,cQ,-List.map_map]
 iterate 16 kernel_rfl
theorem Hw (l:List Sm) {k:Nat} (h:k<l.length):([]:List Ct)++ba (l.take (k+1))=(([]:List Ct)++ba (l.take k))++(l.getD k Sm.zero).ctors:=by
 rw [cI l Sm.zero k h,ub];simp [ba]
abbrev CJ (s:Sc)(k:Nat):=(s.sums.getD k Sm.zero)
abbrev NZ (s:Sc)(k:Nat):=(([]:List Ct)++ba (s.sums.take k))
theorem pi (s:Sc) (hn:s.sums.length<1000000000) (hz:∀ k,(([]:List Ct)++ba (s.sums.take k)).length<1000000) (hz2:∀ k,(s.sums.getD k Sm.zero).ctors.length<1000000):ae cx 107 [Sc.v s] (.imm ((ba s.sums).map Ct.v)):=by
 refine fI 19 0 [(ResultVar.tmp 2)] Tryz.func107 kq ?_;refine zZ (fun _=>[(0,Sc.v s)]) (fun _=>[]) ?_ ?_;apply zW 2 (mT [(1,.ptr 0 0)] [0]) (mH [] [.box (eB s)]);apply zW 1 (mU [(3,.full [])]) id;refine jg 3 7 dq kq ?_;apply zZ (mK 1 [] []) (mO [(1,.arr 7 (([]:List (Ct)).map Ct.v) 0)]);apply ai;apply zV 2;refine qy (aj (l:=s.sums) (enc:=Sm.v) kq di) ?_ ?_ ?_;apply zR 1 (mT [(7,.imm (s.sums.map Sm.v)),(8,nI s.sums.length),(9,.int .i64 0)] [1]) id;apply qB 0;refine aT (σ:=Nat) (fun k=>[(3,.own 1 0 (([]:List Ct)++ba (s.sums.take k)).length),(7,.imm (s.sums.map Sm.v)),(8,.int .i64 ((s.sums.length:Nat):Int)),(9,.int .i64 ((k:Nat):Int))]) (fun k=>[.box [.imm (s.sums.map Sm.v),.imm (s.tabs.map Tb.v)],.arr 7 ((([]:List Ct)++ba (s.sums.take k)).map Ct.v) 0]) (fun k=>k<=s.sums.length) (fun k=>s.sums.length - k) 0 kq i3 (fg kq kq aA bV) ?_;rintro k hk;have hl1:=hz k;have hl2:=hz2 k;apply zW 1 (mU [(10,.bool (decide (((k:Nat):Int)<((s.sums.length:Nat):Int))))]) id;apply ai;by_cases hb1:((k:Nat):Int)<((s.sums.length:Nat):Int);apply qt (decide_eq_true hb1);apply qK;apply zZ (mT [] [10]) id;apply ai;apply qB 1;refine zO ?_ ?_;refine qy ((au (k:=.i64) (l:=s.sums) (enc:=Sm.v) (i:=((k:Nat):Int)) Sm.zero kq di e9 (fun _=>rfl) ar ar).trans (congrArg (fun cs=>some (aa.pimm cs 0,_)) (cr (CJ s k)))) ?_ ?_ ?_;apply zR 3 (mU [(5,.ptr 2 0)]) (mH [] [.box [.str (CJ s k).name,.imm ((CJ s k).ctors.map Ct.v)]]);apply qo;apply qr 3;refine qY (aX (o:=1) (len:=((([]:List Ct)++ba (s.sums.take k)).length)) (l:=(([]:List Ct)++ba (s.sums.take k))) (xs:=(s.sums.getD k Sm.zero).ctors) (enc:=Ct.v) (sz:=7) (fr:=0) (x:=(.imm ((s.sums.getD k Sm.zero).ctors.map Ct.v))) kq gM mn gM rfl kq rfl ez kq ⟨by decide,da⟩ (fun _=>rfl) bm bm) ?_ ?_ ?_;apply qr 1;apply qe;refine ag ?_;apply ab;refine zZ (fun _=>[(3,.own 1 0 ((NZ s k)++(CJ s k).ctors).length),(7,.imm (s.sums.map Sm.v)),(8,nI s.sums.length),(9,nI k)]) (fun _=>[.box (eB s),.arr 7 (((NZ s k)++(CJ s k).ctors).map Ct.v) 0,.box [.str (CJ s k).name,.imm ((CJ s k).ctors.map Ct.v)]]) ?_ ?_;apply qo;refine qy (az (a:=((k:Nat):Int)) (b:=1) kq ar ar) ?_ ?_ ?_;apply qr 1;apply qe;refine ab ⟨k+1,?_,?_,⟨⟨(hT (by rw [Hw s.sums oq]) kq),kq,kq,kq,trivial⟩,aA,by simp,(hT (by rw [Hw s.sums oq]) kq),bV⟩⟩
 . omega
 . omega
 iterate 22 kernel_rfl
 apply qf (decide_eq_false hb1);refine aK 0 kq kq ?_;apply ac;apply ac;refine ao ?_;apply ab;apply zZ (mT [] [7,8,9,10]) id;refine zW 2 (fun _=>[(2,.own 1 0 (NZ s k).length)]) (fun _=>[.box (eB s),.arr 7 ((NZ s k).map Ct.v) 0]) ?_ ?_;refine aJ kq ?_;refine cd (l:=[.own 1 0 (([]:List Ct)++ba (s.sums.take k)).length]) (.inr rfl) kq ?_
 . have e_:k=s.sums.length:=by omega
   subst e_;rw [List.take_length];simp [aZ,aa.frz,aN,cw,cQ,-List.map_map]
 iterate 16 kernel_rfl
theorem Kx (a:List UInt8) :ae cx 233 [.str a] (.bool false):=by
 refine fI 6 0 [(ResultVar.tmp 2)] Tryz.func233 kq ?_;refine zZ (fun _=>[(0,.str a)]) (fun _=>[]) ?_ ?_;refine zW 1 (fun _=>[(0,.str a)]) (fun _=>[]) ?_ ?_;apply zV 4;refine qT ?_ ?_;refine aD (b:=(!(a==a))) (.inr rfl) kq ?_;by_cases hb1:a=a;refine Eq.trans (congrArg not (beq_iff_eq.2 hb1)) ?_
 . first|(exfalso;simp_all;done)|simp
 refine Eq.trans (congrArg not (beq_eq_false_iff_ne.2 hb1)) ?_
 . first|(exfalso;simp_all;done)|simp
 iterate 4 kernel_rfl
theorem GQ (a b:List UInt8) :ae cx 182 [.str a,.str b] (.bool (aS a b)):=by
 refine fI 17 0 [(ResultVar.tmp 4)] Tryz.func182 kq ?_;refine zZ (fun _=>[(0,.str a),(1,.str b)]) (fun _=>[]) ?_ ?_;refine zW 1 (fun _=>[(0,.str a),(1,.str b)]) (fun _=>[]) ?_ ?_;apply zV 1;refine qc [.str a] (Kx a) ?_ ?_;refine qX 11 ?_ ?_;refine aD (b:=(aS a b)) (.inr rfl) kq ?_
 . simp_all
 iterate 5 kernel_rfl
theorem QD {l:List bz} {i:Nat} (ha:∀ k,i<=k+1->k+1<l.length->aS (l.getD (k+1) []) (l.getD k [])=false) (h:((i:Nat):Int) - 1 > 0) (hn:¬ aS (l.getD (((i:Nat):Int) - 1).toNat []) (l.getD (((i:Nat):Int) - 1 - 1).toNat [])=true) :
 ∀ k,i - 1<=k+1->k+1<l.length->aS (l.getD (k+1) []) (l.getD k [])=false:=by
 intro k h1 h2;by_cases e:i<=k+1
 . exact ha k e h2
 . rw [show (((i:Nat):Int) - 1).toNat=k+1 by omega,show (((i:Nat):Int) - 1 - 1).toNat=k by omega] at hn;simpa using hn
theorem Sf {l:List bz} {i:Nat} (ha:∀ k,i<=k+1->k+1<l.length->aS (l.getD (k+1) []) (l.getD k [])=false) (h:¬ ((i:Nat):Int) - 1 > 0):eP l=true:=(j8 l).2 fun k hk=>ha k oq hk
theorem Uf {l:List bz} {i:Nat} (hi:i<=l.length) (h:((i:Nat):Int) - 1 > 0) (hn:aS (l.getD (((i:Nat):Int) - 1).toNat []) (l.getD (((i:Nat):Int) - 1 - 1).toNat [])=true):eP l=false:=by
 cases e:eP l with
 | false=>rfl
 | true =>
  have:=(j8 l).1 e (i - 2) oq;rw [show (((i:Nat):Int) - 1).toNat=i - 2+1 by omega,show (((i:Nat):Int) - 1 - 1).toNat=i - 2 by omega,this] at hn;cases hn
abbrev Q4 (i:Nat):=(((((i:Nat):Int) - 1) - 1)).toNat
theorem Bp (l:List bz) (hn:l.length<1000000000):ae cx 124 [.imm (l.map aa.str)] (.bool (eP l)):=by
 refine fI 21 0 [(ResultVar.tmp 2)] Tryz.func124 kq ?_;refine zZ (fun _=>[(0,.imm (l.map aa.str))]) (fun _=>[]) ?_ ?_;apply zW 1 id id;apply ai;apply zV 1;refine qy (aj (l:=l) (enc:=aa.str) kq a6) ?_ ?_ ?_;refine qy (eZ (a:=((l.length:Nat):Int)) (b:=1) kq ar ar) ?_ ?_ ?_;apply zR 1 (mU [(3,.int .i64 (((l.length:Nat):Int) - 1))]) id;apply qB 0;refine aT (σ:=Nat) (fun i=>[(0,.imm (l.map aa.str)),(3,.int .i64 (((i:Nat):Int) - 1))]) (fun i=>[]) (fun i=>i<=l.length/\∀ k,i<=k+1->k+1<l.length->aS (l.getD (k+1) []) (l.getD k [])=false) (fun i=>i) l.length kq (by exact ⟨Nat.le_refl _,fun k h1 h2=>by omega⟩) (fg kq kq aA bV) ?_;rintro i ⟨hi,ha⟩;apply ai;apply zW 2 (mU [(8,.bool (decide ((((i:Nat):Int) - 1) > 0)))]) id;by_cases hb1:(((i:Nat):Int) - 1) > 0;apply qt (decide_eq_true hb1);apply qK;apply zZ (mT [] [8]) id;apply ai;apply qB 1;apply ai;refine zD cxM kq ax ?_;apply qu 2;refine qd (au (k:=.i64) (l:=l) (enc:=aa.str) (i:=(((i:Nat):Int) - 1)) [] kq a6 ty9 (fun _=>rfl) ar ar) ?_ ?_ ?_ ?_;apply qu 3;refine qd (eZ (a:=(((i:Nat):Int) - 1)) (b:=1) kq ar ar) ?_ ?_ ?_ ?_;refine qd (au (k:=.i64) (l:=l) (enc:=aa.str) (i:=((((i:Nat):Int) - 1) - 1)) [] kq a6 ty9 (fun _=>rfl) ar ar) ?_ ?_ ?_ ?_;apply qu 1;refine qQ (GQ (l.getD (((((i:Nat):Int) - 1)).toNat) []) (l.getD (Q4 i) [])) (kq) kq kq kq ?_;refine bY kq ⟨kq,?_⟩;refine zE (fun _=>[(0,.imm (l.map aa.str)),(3,.int .i64 (((i:Nat):Int) - 1)),(20,.bool (aS (l.getD (((((i:Nat):Int) - 1)).toNat) []) (l.getD (Q4 i) [])))]) (fun _=>[]) ?_ ?_;by_cases hb2:(aS (l.getD (((((i:Nat):Int) - 1)).toNat) []) (l.getD (Q4 i) []))=true;apply qt (hb2);apply zV 1;refine qT ?_ ?_;apply iR;apply aR;apply aR;apply iR;apply aR;refine aD (b:=false) (.inr rfl) kq ?_
 rotate_left
 iterate 3 kernel_rfl
 apply qf (Bool.eq_false_iff.2 hb2);refine qk ?_ ?_;refine ag ?_;apply ab;apply zZ (mT [] [20]) id;apply qo;apply qr 1;refine qy (eZ (a:=(((i:Nat):Int) - 1)) (b:=1) kq ar ar) ?_ ?_ ?_;apply qr 1;apply qe;refine ab ⟨i - 1,?_,?_,⟨⟨kq,(Eq.trans (b:=.int .i64 ((((i:Nat):Int) - 1) - 1)) kq (by exact congrArg (aa.int .i64) oq)),trivial⟩,aA,by simp,kq,bV⟩⟩
 . omega
 . exact ⟨by omega,QD ha aq aq⟩
 iterate 29 kernel_rfl
 apply qf (decide_eq_false hb1);refine aK 0 kq kq ?_;apply ac;apply ac;refine ao ?_;apply ab;refine zZ (fun _=>[]) (fun _=>[]) ?_ ?_;apply zV 1;refine qT ?_ ?_;refine aD (b:=true) (.inr rfl) kq ?_
 rotate_left
 iterate 17 kernel_rfl
 all_goals
  first|exact (Sf ha aq).symm|exact (Uf hi aq aq).symm
end Go.Proofs.YtcpklndelobigaaGreatDoor
namespace Go.Proofs.YtcpklndelobigaaGreatDoor
open Go.Proofs.YtcpklndelobigaaGreatDoor.Abs
set_option maxRecDepth 20000
set_option maxHeartbeats 4000000
open Go.RowKit (Below) in
theorem va {f:FuncId} {args:List aa} {h:af} {sz:Nat} {es:List aa} {K:aa->af->Prop} (hb:uq cx.P f) (hk:K (.own h.length 0 es.length) (h++[.arr sz es 0])) (hsz:0<sz) (hes:∀ (i:Nat) x,es[i]?=some x->x.cells.length=sz)
 (hc:∀ (ρ:Ren) (w:World) (cargs:Array Value),WF ρ h w->vC cx ρ w->VRs ρ h w args cargs->Calls cx.P f cargs w fun e w'=>∃ a cap,e=.returned (.slice a es.length cap)/\Below w.heap.size w w' /\
  ((cap=0/\es=[])\/∃ g c t,a=some ⟨g,0,none⟩/\w.heap.size<=g/\w'.heap[g]?=some (.cells c t (0,0))/\es.length<=cap/\cap * sz<=c.size /\
   ∀ (i:Nat) x (j:Nat) y v,es[i]?=some x->x.cells[j]?=some y->c[i * sz+j]?=some v->∀ ρ' h' w'',VR ρ' h' w'' y v)):av cx f args h K:=by
 refine ⟨hb,fun ρ w cargs wf hg hv=>(hc ρ w cargs wf hg hv).mono ?_⟩;rintro e w' ⟨a,cap,rfl,hbel,hcase⟩
 have key:∀ l':Abs.Loc,l'.cap=cap->es.length<=cap->(0<cap->a=some ⟨l'.blk,l'.base,none⟩/\w.heap.size<=l'.blk/\∃ c t,w'.heap[l'.blk]?=some (.cells c t (0,0))/\l'.base=0/\cap * sz<=c.size /\
  ∀ (i:Nat) x (j:Nat) y v,es[i]?=some x->x.cells[j]?=some y->c[i * sz+j]?=some v->∀ ρ' h' w'',VR ρ' h' w'' y v) ->
  ∃ ρ' cv v h',Ending.returned (.slice a es.length cap)=.returned cv/\K v h'/\VR ρ' h' w' v cv/\WF ρ' h' w'/\Le ρ h w ρ' h' w'/\Fr ⟨w,ρ.I,gV ρ h⟩ ρ' h' w':=by
  intro l' hl1 hle hl2
  have hst:=ce (h':=h++[.arr sz es 0]) (w':=w') wf (Fr.refl ρ h w) h.length (.arr sz es 0) l' ρ.I (getElem?_append_one _ _) (fun o' ho=>bE _ _ _ ho)
   hbel.os hbel.tape hbel.output hbel.size (fun b hb _=>hbel.block b hb) zq
   (fun b j hI=>⟨hI,bB (hbel.block b (wf.immlt b j hI)) j⟩) (fun b j hI=>.inl hI)
   (fun hb=>by
    have hcap:0<cap:=by simpa [am.hasBlk,hl1] using hb
    obtain ⟨-,h2,c,t,h3,-⟩:=hl2 hcap;exact .inl ⟨h2,(Array.getElem?_eq_some_iff.1 h3).1⟩)
   (fun j hb hI=>by
    have hcap:0<cap:=by simpa [am.hasBlk,hl1] using hb
    have:=(hl2 hcap).2.1;exact absurd (wf.immlt _ j hI) oq)
   (cy wf)
   (fun le=>⟨Nat.zero_le _,by rw [hl1];exact hle,hsz,hes,fun hcap=>by
    rw [hl1] at hcap;obtain ⟨-,-,c,t,h3,h4,h5,h6⟩:=hl2 hcap;exact ⟨c,t,h3,by rw [h4,hl1];simpa using h5,fun i x j y v q1 q2 q3=>h6 i x j y v q1 q2 (by rwa [h4,Nat.zero_add] at q3) _ _ _⟩⟩)
  refine ⟨_,_,_,_,rfl,hk,?_,hst.1,hst.2.1,hst.2.2⟩;refine .own h.length 0 es.length a es.length cap sz es 0 (getElem?_append_one _ _) ⟨by omega,fun _=>⟨rfl,(by rw [Ren.put_same,hl1];omega),fun hcap=>?_⟩⟩;rw [Ren.put_same,(hl2 hcap).1,Nat.zero_mul,Nat.add_zero]
 rcases hcase with ⟨rfl,rfl⟩|⟨g,c,t,rfl,h2,h3,h4,h5,h6⟩
 . exact key ⟨0,0,0⟩ rfl (Nat.le_refl _) (fun h=>absurd h (Nat.lt_irrefl 0))
 . exact key ⟨g,0,cap⟩ rfl h4 (fun _=>⟨rfl,h2,c,t,h3,rfl,h5,h6⟩)
section
open Go.RowKit Go.Shelf Go.Maps Go.Sort
theorem wz {h:af} {o:Nat} {x:aa} {ss:List bz} (ho:h[o]?=some (.box [x])) (hx:fz h x=some (ss.map .str)) (hsz:ss.length<=1000000) :
 av cx 179 [.fn (.func 232) [] [.ptr o 0]] h (fun v h'=>v=.own h.length 0 (bw ss).length/\h'=h++[.arr 1 ((bw ss).map .str) 0]):=by
 have hl0:((bw ss).map aa.str).length=(bw ss).length:=List.length_map ..;refine va (sz:=1) (es:=(bw ss).map .str) ⟨_,Tryz.func179,rfl,rfl⟩ ⟨by rw [hl0],rfl⟩ dq (fun i x hx=>?_) ?_
 . simp only [List.getElem?_map,Option.map_eq_some_iff] at hx;obtain ⟨s,_,rfl⟩:=hx;rfl
 intro ρ w cargs wf _ hv;obtain ⟨u,rfl,hu⟩:=hv.one
 have hcv:∃ p,u=.func (.func 232) #[] #[p]/\VR ρ h w (.ptr o 0) p:=by
  cases hu with
  | fn _ _ _ us vs hl hl' hu1 hv1 =>
   obtain ⟨us⟩:=us;obtain ⟨vs⟩:=vs
   match us,vs,hl,hl',hv1 with
   | [],[p],_,_,hv2=>exact ⟨p,rfl,hv2 0 _ _ rfl rfl⟩
 obtain ⟨p,rfl,hp⟩:=hcv;obtain ⟨c,t,q1,q2,q3⟩:=wf.obj o _ ho;have hpe:p=.pointer (some ⟨(ρ.loc o).blk,0,none⟩):=by cases hp;rfl
 subst hpe;have hlt:(ρ.loc o).blk<w.heap.size:=(Array.getElem?_eq_some_iff.1 q1).1;simp only [List.length_cons,List.length_nil] at q2;have hc0:c[0]?=some c[0]:=Array.getElem?_eq_getElem oq;have hcell:w.cell? ⟨(ρ.loc o).blk,0,none⟩=some c[0]:=by simp [World.cell?,q1,hc0]
 obtain ⟨cs,hR,hE⟩:=jT wf (q3 0 x c[0] rfl hc0) hx (AA ss);obtain ⟨a,cap0,e0,hcl,hcs⟩:=hR;simp only [List.length_map,Nat.mul_one] at hcl e0
 have hI:Strs w.heap.size w c[0] ss:=by
  rcases Nat.eq_zero_or_pos ss.length with hz|hpos
  . exact .inl ⟨a,cap0,by rw [e0,hz],List.eq_nil_of_length_eq_zero hz⟩
  obtain ⟨b,off,ea,hcs2⟩:=hcs oq;subst ea
  have hcells:∀ j,j<ss.length->w.cell? ⟨b,off+j,none⟩=some (encStr (ss[j]?.getD [])):=by
   intro j hj;obtain ⟨u,g1,g2⟩:=hE j (.str ss[j]) 0 (.str ss[j]) (by simp [hj]) (by simp [aa.cells]);have h2:=hcs2 j u (by simpa using g1);generalize e:ss[j]=s at g2;cases g2
   rw [h2];simp [hj,e,encStr]
  have hbl:b<w.heap.size:=by
   have h1:=hcells 0 hpos;unfold World.cell? at h1;by_cases hb:b<w.heap.size
   . exact hb
   . simp [Array.getElem?_eq_none (show w.heap.size<=b by omega)] at h1
  exact .inr ⟨b,off,cap0,e0,hbl,hcells⟩
 refine (pa (ρ.loc o).blk c[0] ss (Nat.le_trans (by omega:ss.length+1<=1000001) dq) oq w hlt hcell hI).mono ?_;rintro e w' ⟨v,rfl,hrow,hb⟩;have hl:ss.length=(bw ss).length:=(eM _).symm.length_eq;obtain ⟨hx,⟨rfl,hn⟩|⟨gb,cap,cur,rfl,hbase,hgb,hcap,hcm,hcs,hcur⟩⟩:=hrow
 . have hz:bw ss=[]:=List.eq_nil_of_length_eq_zero oq;exact ⟨none,0,by rw [hz];rfl,hb,.inl ⟨rfl,by rw [hz];rfl⟩⟩
 . refine ⟨_,cap,(by rw [hl0,<- hl]),hb,.inr ⟨gb,cur,_,rfl,hbase,hgb,(by rw [hl0,<- hl];exact hcap),(by rw [hcs];exact Nat.le_refl _),?_⟩⟩;intro i x j y v q1 q2 q3 ρ' h' w'';simp only [List.getElem?_map,Option.map_eq_some_iff] at q1;obtain ⟨s,hs,rfl⟩:=q1
   have hj:j=0:=by
    have:=(List.getElem?_eq_some_iff.1 q2).1;simp [aa.cells] at this;exact this
   subst hj;have hy:y=.str s:=by simpa [aa.cells] using q2.symm
   subst hy;have hi:i<(bw ss).length:=(List.getElem?_eq_some_iff.1 hs).1;have h1:(cur.toList.take (ss.length * 1))[i]?=some (encStr s):=by rw [hcur,List.getElem?_map,hs];rfl
   rw [List.getElem?_take] at h1;split at h1
   . rw [Array.getElem?_toList] at h1;simp only [Nat.mul_one,Nat.add_zero] at q3;rw [h1] at q3;cases q3
     exact .str s
   . simp at h1
end
end Go.Proofs.YtcpklndelobigaaGreatDoor
namespace Go.Proofs.YtcpklndelobigaaGreatDoor
open Go.Proofs.YtcpklndelobigaaGreatDoor.Abs
set_option maxRecDepth 20000
set_option maxHeartbeats 4000000
@[simp] theorem Te (k i:Nat) (a:List bz):aC k ((a.map aa.str).take i)=true:=by rw [<- List.map_take];exact mI k _
@[simp] theorem Ka (k:Nat):∀ n,aC k (List.replicate n (iA 1))=true
 | 0=>rfl
 | n+1=>by rw [List.replicate_succ,aC,Ka k n];rfl
def bQ (k0:Nat) (l:List (List UInt8)):Nat->List (List UInt8)×Nat
 | 0=>(l,k0)
 | j+1=>if (bQ k0 l j).1.getD (k0+(j+1)) []=(bQ k0 l j).1.getD (k0+j) [] then bQ k0 l j else ((bQ k0 l j).1.set (bQ k0 l j).2 ((bQ k0 l j).1.getD (k0+(j+1)) []),(bQ k0 l j).2+1)
theorem oK (k0:Nat) (l:List bz):∀ j,(bQ k0 l j).1.length=l.length/\(bQ k0 l j).2<=k0+j
 | 0=>⟨rfl,Nat.le_refl _⟩
 | j+1=>by
  have h:=oK k0 l j;rw [bQ];split
  . exact ⟨h.1,by omega⟩
  . exact ⟨by rw [List.length_set];exact h.1,by omega⟩
theorem Om {k0 j:Nat} {l:List bz} (h:(bQ k0 l j).1.getD (0+k0+(j+1)) []=(bQ k0 l j).1.getD (0+k0+(((j+1:Nat):Int) - 1).toNat) []):bQ k0 l (j+1)=bQ k0 l j:=by
 rw [show 0+k0+(((j+1:Nat):Int) - 1).toNat=k0+j by omega,Nat.zero_add] at h;rw [bQ,if_pos h]
theorem OI {k0 j:Nat} {l:List bz} (h:¬ (bQ k0 l j).1.getD (0+k0+(j+1)) []=(bQ k0 l j).1.getD (0+k0+(((j+1:Nat):Int) - 1).toNat) []):bQ k0 l (j+1)=((bQ k0 l j).1.set (0+(bQ k0 l j).2) ((bQ k0 l j).1.getD (0+k0+(j+1)) []),(bQ k0 l j).2+1):=by
 rw [show 0+k0+(((j+1:Nat):Int) - 1).toNat=k0+j by omega,Nat.zero_add] at h;rw [bQ,if_neg h,Nat.zero_add,Nat.zero_add]
theorem Jg {a:List bz} {i:Nat} {R:List aa} (hi:i<=a.length):((a.map aa.str).take (0+i)++R).take i=(a.take i).map aa.str:=by
 rw [Nat.zero_add,List.take_append_of_le_length (by rw [List.length_take,List.length_map];omega),List.take_take,Nat.min_self,<- List.map_take]
abbrev G6 (k0:Nat):=0+(((k0:Nat):Int) - 1).toNat
theorem ST {l:List bz} {k k0:Nat} (he:l.getD (0+k0) []=l.getD (G6 k0) []) (h:k<=k0) (hn:¬ l.getD (0+k) []=l.getD (0+(((k:Nat):Int) - 1).toNat) []):k+1<=k0:=by
 rcases Nat.lt_or_eq_of_le h with q|q
 . exact q
 . subst q;exact absurd he hn
theorem Th {l:List bz} {k k0:Nat} (ha:∀ k,1<=k->k<k0->¬ l.getD (0+k) []=l.getD (0+(((k:Nat):Int) - 1).toNat) []) (h1:1<=k) (h:k<=k0) (hy:l.getD (0+k) []=l.getD (0+(((k:Nat):Int) - 1).toNat) []):k=k0:=by
 rcases Nat.lt_or_eq_of_le h with q|q
 . exact absurd hy (ha k h1 q)
 . exact q
theorem QE (l:List bz):(∀ k,1<=k->k<l.length->¬ l.getD (0+k) []=l.getD (0+(((k:Nat):Int) - 1).toNat) [])\/∃ k0,1<=k0/\k0<l.length/\(∀ k,1<=k->k<k0->¬ l.getD (0+k) []=l.getD (0+(((k:Nat):Int) - 1).toNat) [])/\l.getD (0+k0) []=l.getD (G6 k0) []:=by
 have:∀ n,n<=l.length->(∀ k,1<=k->k<n->¬ l.getD (0+k) []=l.getD (0+(((k:Nat):Int) - 1).toNat) [])\/∃ k0,1<=k0/\k0<l.length/\(∀ k,1<=k->k<k0->¬ l.getD (0+k) []=l.getD (0+(((k:Nat):Int) - 1).toNat) [])/\l.getD (0+k0) []=l.getD (G6 k0) []:=by
  intro n
  induction n with
  | zero=>exact fun _=>.inl fun k _ h=>absurd h (Nat.not_lt_zero k)
  | succ n ih =>
   intro hn;rcases ih oq with h|h
   . by_cases hz:1<=n
     . by_cases he:l.getD (0+n) []=l.getD (0+(((n:Nat):Int) - 1).toNat) []
       . exact .inr ⟨n,hz,by omega,h,he⟩
       . refine .inl fun k h1 h2=>?_
         rcases Nat.lt_succ_iff_lt_or_eq.1 h2 with q|rfl
         . exact h k h1 q
         . exact he
     . exact .inl fun k h1 h2=>absurd h2 oq
   . exact .inr h
 exact this l.length (Nat.le_refl _)
theorem QN:∀ (a b:List UInt8),leB a b=true->leB b a=true->a=b:=fun a b h1 h2=>by
 have e1:aS b a=false:=by rw [sI];exact decide_eq_false (by simpa [leB] using h1)
 have e2:aS a b=false:=by rw [sI];exact decide_eq_false (by simpa [leB] using h2)
 rcases fP e1 with e|e
 . exact e.symm
 . rw [e2] at e;cases e
theorem MJ {l:List bz} (hs:l.Pairwise (fun a b=>leB a b=true)) (ha:∀ k,1<=k->k<l.length->¬ l.getD (0+k) []=l.getD (0+(((k:Nat):Int) - 1).toNat) []):l.Nodup:=by
 refine List.pairwise_iff_getElem.2 fun i j hi hj hij e=>?_
 refine ha (i+1) oq oq ?_;rw [show 0+(((i+1:Nat):Int) - 1).toNat=i by omega,Nat.zero_add,a7 _ _ _ (by omega:i+1<l.length),a7 _ _ _ hi];have h1:leB l[i] l[i+1]=true:=List.pairwise_iff_getElem.1 hs i (i+1) hi oq oq
 have h2:leB l[i+1] l[i]=true:=by
  rcases Nat.lt_or_eq_of_le (by omega:i+1<=j) with q|q
  . have:=List.pairwise_iff_getElem.1 hs (i+1) j oq hj q;rw [e];exact this
  . subst q;rw [e];simp [leB,eI]
 exact QN _ _ h2 h1
theorem PI {l:List bz} (ha:∀ k,1<=k->k<(bw l).length->¬ (bw l).getD (0+k) []=(bw l).getD (0+(((k:Nat):Int) - 1).toNat) []):bA l=false :=
 fN.2 ((eM l).nodup_iff.1 (MJ (kS l) ha))
theorem LQ {l:List bz} {k:Nat} (h1:1<=k) (h2:k<(bw l).length) (h:(bw l).getD (0+k) []=(bw l).getD (0+(((k:Nat):Int) - 1).toNat) []):bA l=true:=by
 cases e:bA l with
 | true=>rfl
 | false =>
  have:=(eM l).nodup_iff.2 (fN.1 e);rw [show 0+(((k:Nat):Int) - 1).toNat=k - 1 by omega,Nat.zero_add,a7 _ _ _ h2,a7 _ _ _ (by omega:k - 1<(bw l).length)] at h;exact absurd h.symm (List.pairwise_iff_getElem.1 this (k - 1) k oq h2 oq)
theorem Rq {l:List bz} {k0:Nat} (h:k0<l.length):(bQ k0 l (l.length - k0 - 1)).2<l.length/\(bQ k0 l (l.length - k0 - 1)).1.length=l.length:=by
 have:=oK k0 l (l.length - k0 - 1);exact ⟨by omega,this.1⟩
noncomputable def Ui:Code:=fZ Tryz.f181
abbrev f7 (l:List (List UInt8)):=(l.map aa.str)
abbrev Fz (l:List (List UInt8))(k:Nat):=(l.getD (0+((((k:Nat):Int) - 1)).toNat) [])
abbrev Is (l0:List (List UInt8))(l:List (List UInt8)):List am:=[.box [.imm (l0.map aa.str)],.arr 1 (f7 l) 0]
theorem t6 {p:Prop} (h:p:=by simp [am.belO,aC,cw,aa.bel,Ty.v,Ex.v,Ct.v,Co.v,Rf.v,Sm.v,Tb.v_cs,Sc.v,Md.v,Pb.v,Ls.v,-List.map_take,-List.map_drop,-List.map_append,-List.map_set]):p:=h
abbrev B1 (l0:List (List UInt8))(l:List (List UInt8)):List am:=[.box [.imm (l0.map aa.str)],.arr 1 (l.map aa.str) 0]
abbrev Oj (k:Nat):=0+((((k:Nat):Int) - 1)).toNat
abbrev mt :=ResultVar.tmp 2
theorem Qa (l0 l:List bz) (hn:l.length<=1000000) (ha:∀ k,1<=k->k<l.length->¬ l.getD (0+k) []=l.getD (0+(((k:Nat):Int) - 1).toNat) []):av cx 181 [.own 1 0 l.length] (B1 l0 l) (fun v h=>v=.own 1 0 l.length/\h=(B1 l0 l)):=by
 refine ed (cx:=cx) 61 2 [mt] Tryz.func181 rfl rfl rfl rfl rfl zq ?_;show wpA cx 61 2 (at_ Ui []) _ _ _;refine zZ (fun _=>[(0,.own 1 0 l.length)]) (fun _=>(Is l0 l)) ?_ ?_;apply zW 1 id id;apply ai;apply zV 1;refine qy (cu (o:=1) (off:=0) (len:=l.length) (sz:=1) (es:=(f7 l)) (fr:=0) kq a6 kq zq) ?_ ?_ ?_;apply zR 1 (mU [(8,.bool (decide (((l.length:Nat):Int)<2)))]) id;by_cases hb1:((l.length:Nat):Int)<2;apply qt (decide_eq_true hb1);refine zW 2 (fun _=>[(2,.own 1 0 l.length)]) (fun _=>(Is l0 l)) ?_ ?_;refine aJ kq ?_;apply aR;refine fm (l:=[.own 1 0 l.length]) 2 (B1 l0 l) (.inr rfl) kq dq kq GC t6 ?_
 . exact ⟨rfl,rfl⟩
 iterate 2 kernel_rfl
 apply qf (decide_eq_false hb1);apply qK;apply zZ (mT [] [8]) id;apply ai;apply zW 1 (mU [(3,.int .i64 1)]) id;apply qB 0;refine aT (σ:=Nat) (fun k=>[(0,.own 1 0 l.length),(3,nI k)]) (fun k=>(Is l0 l)) (fun k=>1<=k/\(k<=l.length\/k=1)) (fun k=>l.length - k) 1 kq oq (fg kq kq aA t6) ?_;rintro k ⟨hk1,hk2⟩;apply ai;apply zV 2;refine qy (cu (o:=1) (off:=0) (len:=l.length) (sz:=1) (es:=(f7 l)) (fr:=0) kq a6 kq zq) ?_ ?_ ?_;apply zR 1 (mU [(13,.bool (decide (((k:Nat):Int)<((l.length:Nat):Int))))]) id;by_cases hb2:((k:Nat):Int)<((l.length:Nat):Int);apply qt (decide_eq_true hb2);apply qK;apply zZ (mT [] [13]) id;apply ai;apply qB 1;apply ai;refine zD cxM kq ax ?_;apply qu 2;refine qd (bD (k:=.i64) (i:=((k:Nat):Int)) (o:=1) (off:=0) (len:=l.length) (sz:=1) (fr:=0) (es:=(f7 l)) kq a6 ty9 kq rfl zq bm bm) ?_ ?_ ?_ ?_;refine qd (c7 (t:=9) (o:=1) (idx:=(0+k)) (off:=0) (k:=((f7 l).length)) (sz:=1) (fr:=0) (es:=(f7 l)) (x:=aa.str (l.getD (0+k) [])) (v:=.str (l.getD (0+k) [])) kq kq zq (c6 _ _ _ _ bm) kq) ?_ ?_ ?_ ?_;apply qu 2;refine qd (eZ (a:=((k:Nat):Int)) (b:=1) kq bm bm) ?_ ?_ ?_ ?_;refine qd (bD (k:=.i64) (i:=(((k:Nat):Int) - 1)) (o:=1) (off:=0) (len:=l.length) (sz:=1) (fr:=0) (es:=(f7 l)) kq a6 ty9 kq rfl zq bm bm) ?_ ?_ ?_ ?_;refine qd (c7 (t:=9) (o:=1) (idx:=(Oj k)) (off:=0) (k:=((f7 l).length)) (sz:=1) (fr:=0) (es:=(f7 l)) (x:=aa.str (Fz l k)) (v:=.str (Fz l k)) kq kq zq (c6 _ _ _ _ bm) kq) ?_ ?_ ?_ ?_;apply qu 1;refine bY kq ⟨kq,?_⟩;refine zE (mU [(25,.bool ((l.getD (0+k) [])==(Fz l k)))]) id ?_ ?_;by_cases hb3:(l.getD (0+k) [])=(l.getD (Oj k) [])
 . exfalso;exact ha k hk1 oq hb3
 apply qf (beq_eq_false_iff_ne.2 hb3);refine qk ?_ ?_;refine ag ?_;apply ab;apply zZ (mT [] [25]) id;apply qo;apply qr 1;refine qy (az (a:=((k:Nat):Int)) (b:=1) kq bm bm) ?_ ?_ ?_;apply qr 1;apply qe;refine ab ⟨k+1,?_,?_,(fg kq kq aA t6)⟩
 . omega
 . omega
 iterate 35 kernel_rfl
 apply qf (decide_eq_false hb2);refine aK 0 kq kq ?_;apply ac;apply ac;refine ao ?_;apply ab;apply zZ (mT [] [3,13]) id;refine zW 2 (fun _=>[(2,.own 1 0 l.length)]) (fun _=>(Is l0 l)) ?_ ?_;refine aJ kq ?_;refine fm (l:=[.own 1 0 l.length]) 2 (B1 l0 l) (.inr rfl) kq dq kq GC t6 ?_
 . exact ⟨rfl,rfl⟩
 iterate 22 kernel_rfl
abbrev CW (k:Nat)(l:List (List UInt8))(j:Nat):=(((bQ k l j).1.map aa.str).take (0+(bQ k l j).2)++List.replicate (l.length - (bQ k l j).2) (iA 1))
abbrev uA (k:Nat)(l:List (List UInt8))(j:Nat):=((bQ k l j).1.getD ((0+k)+(j+1)) [])
abbrev nS (k:Nat)(l:List (List UInt8))(j:Nat):=((bQ k l j).1.map aa.str)
abbrev Hm (k:Nat)(l:List (List UInt8))(j:Nat):=((bQ k l j).1.getD ((0+k)+(((((j+1):Nat):Int) - 1)).toNat) [])
abbrev AH (j:Nat):=(((j+1):Nat):Int)
theorem xo {p:Prop} (h:p:=by first|(simp;done)|(simp [hal];done)|(simp [hal];omega)):p:=h
abbrev GP (l0:List (List UInt8)):List aa:=[.imm (l0.map aa.str)]
theorem Lu (l0 l:List bz) (k0:Nat) (hn:l.length<=1000000) (h1:1<=k0) (h2:k0<l.length) (ha:∀ k,1<=k->k<k0->¬ l.getD (0+k) []=l.getD (0+(((k:Nat):Int) - 1).toNat) []) (he:l.getD (0+k0) []=l.getD (G6 k0) []):av cx 181 [.own 1 0 l.length] (B1 l0 l) (fun v h=>v=.imm (((bQ k0 l (l.length - k0 - 1)).1.take (bQ k0 l (l.length - k0 - 1)).2).map .str)/\h=[.box (GP l0),.arr 1 (((bQ k0 l (l.length - k0 - 1)).1.map aa.str).take (0+(bQ k0 l (l.length - k0 - 1)).2)++List.replicate (l.length - (bQ k0 l (l.length - k0 - 1)).2) (iA 1)) (bif Nat.beq ((bQ k0 l (l.length - k0 - 1)).2) 0 then 0 else ((((bQ k0 l (l.length - k0 - 1)).1.map aa.str).take (0+(bQ k0 l (l.length - k0 - 1)).2)++List.replicate (l.length - (bQ k0 l (l.length - k0 - 1)).2) (iA 1))).length)]):=by
 refine ed (cx:=cx) 61 2 [mt] Tryz.func181 rfl rfl rfl rfl rfl zq ?_;show wpA cx 61 2 (at_ Ui []) _ _ _;refine zZ (fun _=>[(0,.own 1 0 l.length)]) (fun _=>(Is l0 l)) ?_ ?_;apply zW 1 id id;apply ai;apply zV 1;refine qy (cu (o:=1) (off:=0) (len:=l.length) (sz:=1) (es:=(f7 l)) (fr:=0) kq a6 kq xo) ?_ ?_ ?_;apply zR 1 (mU [(8,.bool (decide (((l.length:Nat):Int)<2)))]) id;by_cases hb1:((l.length:Nat):Int)<2
 . exfalso;omega
 apply qf (decide_eq_false hb1);apply qK;apply zZ (mT [] [8]) id;apply ai;apply zW 1 (mU [(3,.int .i64 1)]) id;apply qB 0;refine aT (σ:=Nat) (fun k=>[(0,.own 1 0 l.length),(3,.int .i64 ((k:Nat):Int))]) (fun k=>(B1 l0 l)) (fun k=>1<=k/\k<=k0) (fun k=>l.length - k) 1 kq oq (fg kq kq aA t6) ?_;rintro k ⟨hk1,hk2⟩;apply ai;apply zV 2;refine qy (cu (o:=1) (off:=0) (len:=l.length) (sz:=1) (es:=(f7 l)) (fr:=0) kq a6 kq xo) ?_ ?_ ?_;apply zR 1 (mU [(13,.bool (decide (((k:Nat):Int)<((l.length:Nat):Int))))]) id;by_cases hb2:((k:Nat):Int)<((l.length:Nat):Int);apply qt (decide_eq_true hb2);apply qK;apply zZ (mT [] [13]) id;apply ai;apply qB 1;apply ai;refine zD cxM kq ax ?_;apply qu 2;refine qd (bD (k:=.i64) (i:=((k:Nat):Int)) (o:=1) (off:=0) (len:=l.length) (sz:=1) (fr:=0) (es:=(f7 l)) kq a6 ty9 kq rfl xo bm bm) ?_ ?_ ?_ ?_;refine qd (c7 (t:=9) (o:=1) (idx:=(0+k)) (off:=0) (k:=((f7 l).length)) (sz:=1) (fr:=0) (es:=(f7 l)) (x:=aa.str (l.getD (0+k) [])) (v:=.str (l.getD (0+k) [])) kq kq zq (c6 _ _ _ _ bm) kq) ?_ ?_ ?_ ?_;apply qu 2;refine qd (eZ (a:=((k:Nat):Int)) (b:=1) kq bm bm) ?_ ?_ ?_ ?_;refine qd (bD (k:=.i64) (i:=(((k:Nat):Int) - 1)) (o:=1) (off:=0) (len:=l.length) (sz:=1) (fr:=0) (es:=(f7 l)) kq a6 ty9 kq rfl xo bm bm) ?_ ?_ ?_ ?_;refine qd (c7 (t:=9) (o:=1) (idx:=(Oj k)) (off:=0) (k:=((f7 l).length)) (sz:=1) (fr:=0) (es:=(f7 l)) (x:=aa.str (Fz l k)) (v:=.str (Fz l k)) kq kq zq (c6 _ _ _ _ bm) kq) ?_ ?_ ?_ ?_;apply qu 1;refine bY kq ⟨kq,?_⟩;refine zE (mU [(25,.bool ((l.getD (0+k) [])==(Fz l k)))]) id ?_ ?_;by_cases hb3:(l.getD (0+k) [])=(l.getD (Oj k) []);apply qt (beq_iff_eq.2 hb3);apply zV 2;refine qy (yv (o:=1) (off:=0) (len:=l.length) (sz:=1) (fr:=0) (es:=(f7 l)) (k:=.i64) (i:=k) kq a6 ty9 kq bm rfl bm) ?_ ?_ ?_;apply zR 1 (mT [(4,.own 1 (0+k) (l.length - k))] [25]) id;apply ai;apply zW 1 (mU [(5,.int .i64 1)]) id;apply qB 2;refine aT (σ:=Nat) (fun j=>[(0,.own 1 0 l.length),(3,.int .i64 (((bQ k l j).2:Nat):Int)),(4,.own 1 (0+k) (l.length - k)),(5,.int .i64 (((j+1):Nat):Int))]) (fun j=>[.box (GP l0),.arr 1 ((bQ k l j).1.map aa.str) 0]) (fun j=>j+1<=l.length - k) (fun j=>l.length - j) 0 kq oq ⟨⟨kq,(Eq.trans (b:=.int .i64 ((k:Nat):Int)) kq kZ),kq,kq,trivial⟩,aA,by simp,(Eq.trans (b:=(B1 l0 l)) kq kZ),t6⟩ ?_;rintro j hj;have hal:=(oK k l j).1;have hkj:=(oK k l j).2;apply ai;apply zV 2;refine qy (cu (o:=1) (off:=(0+k)) (len:=(l.length - k)) (sz:=1) (es:=(nS k l j)) (fr:=0) kq a6 kq xo) ?_ ?_ ?_;apply zR 1 (mU [(32,.bool (decide ((AH j)<(((l.length - k):Nat):Int))))]) id;by_cases hb4:(((j+1):Nat):Int)<(((l.length - k):Nat):Int);apply qt (decide_eq_true hb4);apply qK;apply zZ (mT [] [32]) id;apply ai;apply qB 3;apply ai;refine zD cxM kq ax ?_;apply qu 2;refine qd (bD (k:=.i64) (i:=(AH j)) (o:=1) (off:=(0+k)) (len:=(l.length - k)) (sz:=1) (fr:=0) (es:=(nS k l j)) kq a6 ty9 kq rfl xo bm bm) ?_ ?_ ?_ ?_;refine qd (c7 (t:=9) (o:=1) (idx:=((0+k)+(j+1))) (off:=0) (k:=((nS k l j).length)) (sz:=1) (fr:=0) (es:=(nS k l j)) (x:=aa.str (uA k l j)) (v:=.str (uA k l j)) kq kq zq (c6 _ _ _ _ bm) kq) ?_ ?_ ?_ ?_;apply qu 2;refine qd (eZ (a:=(AH j)) (b:=1) kq bm bm) ?_ ?_ ?_ ?_;refine qd (bD (k:=.i64) (i:=((AH j) - 1)) (o:=1) (off:=(0+k)) (len:=(l.length - k)) (sz:=1) (fr:=0) (es:=(nS k l j)) kq a6 ty9 kq rfl xo bm bm) ?_ ?_ ?_ ?_;refine qd (c7 (t:=9) (o:=1) (idx:=((0+k)+(((AH j) - 1)).toNat)) (off:=0) (k:=((nS k l j).length)) (sz:=1) (fr:=0) (es:=(nS k l j)) (x:=aa.str (Hm k l j)) (v:=.str (Hm k l j)) kq kq zq (c6 _ _ _ _ bm) kq) ?_ ?_ ?_ ?_;apply qu 1;refine bY kq ⟨kq,?_⟩;refine zE (mU [(44,.bool (!((uA k l j)==(Hm k l j))))]) id ?_ ?_;by_cases hb5:((bQ k l j).1.getD ((0+k)+(j+1)) [])=((bQ k l j).1.getD ((0+k)+(((((j+1):Nat):Int) - 1)).toNat) []);refine qf (x:=(!((uA k l j)==(Hm k l j)))) (congrArg not (beq_iff_eq.2 hb5)) ?_ ?_;refine qk ?_ ?_;refine ag ?_;apply ab;apply zZ (mT [] [44]) id;apply qo;apply qr 1;refine qy (az (a:=(AH j)) (b:=1) kq bm bm) ?_ ?_ ?_;apply qr 1;apply qe;refine ab ⟨j+1,?_,?_,⟨⟨kq,(hT (by rw [Om aq]) kq),kq,kq,trivial⟩,aA,by simp,(hT (by rw [Om aq]) kq),t6⟩⟩
 . omega
 . omega
 iterate 9 kernel_rfl
 refine qt (x:=(!((uA k l j)==(Hm k l j)))) (congrArg not (beq_eq_false_iff_ne.2 hb5)) ?_ ?_;apply zV 4;refine qy (bD (k:=.i64) (i:=(AH j)) (o:=1) (off:=(0+k)) (len:=(l.length - k)) (sz:=1) (fr:=0) (es:=(nS k l j)) kq a6 ty9 kq rfl xo bm bm) ?_ ?_ ?_;refine qy (c7 (t:=9) (o:=1) (idx:=((0+k)+(j+1))) (off:=0) (k:=((nS k l j).length)) (sz:=1) (fr:=0) (es:=(nS k l j)) (x:=aa.str (uA k l j)) (v:=.str (uA k l j)) kq kq zq (c6 _ _ _ _ bm) kq) ?_ ?_ ?_;refine qy (bD (k:=.i64) (i:=(((bQ k l j).2:Nat):Int)) (o:=1) (off:=0) (len:=l.length) (sz:=1) (fr:=0) (es:=(nS k l j)) kq a6 ty9 kq rfl xo bm bm) ?_ ?_ ?_;refine qY (ix (o:=1) (k:=((nS k l j).length)) (x:=.str (uA k l j)) (enc:=aa.str) (l:=(bQ k l j).1) (X:=(uA k l j)) (d:=[]) (idx:=(0+(bQ k l j).2)) (sz:=1) kq rfl kq zq bm ty9 yC tj) ?_ ?_ ?_;refine zN (mT [] [44]) (mO [(1,.arr 1 (((bQ k l j).1.set (0+(bQ k l j).2) (uA k l j)).map aa.str) 0)]) ?_ ?_;apply qo;apply qr 1;refine qy (az (a:=(((bQ k l j).2:Nat):Int)) (b:=1) kq bm bm) ?_ ?_ ?_;apply qr 1;apply qe;refine ag ?_;apply ab;refine zZ (fun _=>[(0,.own 1 0 l.length),(3,nI (((bQ k l j).2+1))),(4,.own 1 (0+k) (l.length - k)),(5,nI (j+1))]) id ?_ ?_;apply qo;apply qr 1;refine qy (az (a:=(AH j)) (b:=1) kq bm bm) ?_ ?_ ?_;apply qr 1;apply qe;refine ab ⟨j+1,?_,?_,⟨⟨kq,(hT (by rw [OI aq]) kq),kq,kq,trivial⟩,aA,by simp,(hT (by rw [OI aq]) kq),t6⟩⟩
 . omega
 . omega
 iterate 50 kernel_rfl
 apply qf (decide_eq_false hb4);refine aK 2 kq kq ?_;apply ac;apply ac;refine ao ?_;apply ab;apply zZ (mT [] [4,5,32]) id;apply zV 2;refine qy (yv (o:=1) (off:=0) (len:=l.length) (sz:=1) (fr:=0) (es:=(nS k l j)) (k:=.i64) (i:=(bQ k l j).2) kq a6 ty9 kq bm rfl bm) ?_ ?_ ?_;refine EB (o:=1) (off:=(0+(bQ k l j).2)) (len:=(l.length - (bQ k l j).2)) (es:=(nS k l j)) (sz:=1) (fr:=0) (H':=[.box (GP l0),.arr 1 (CW k l j) 0]) kq kq kq a6 ty9 kq bm (Nat.zero_le _) dq kq ?_;refine zN id (mO [(1,.arr 1 (CW k l j) 0)]) ?_ ?_;apply zV 2;refine Ii (o:=1) (len:=l.length) (es:=(CW k l j)) (sz:=1) (fr:=0) (k:=.i64) (i:=(bQ k l j).2) (xs:=(((bQ k l j).1.take (bQ k l j).2).map aa.str)) (H':=[.box (GP l0),.arr 1 (CW k l j) (bif Nat.beq ((bQ k l j).2) 0 then 0 else (CW k l j).length)]) kq kq kq a6 ty9 kq bm rfl bm (by exact Jg oq) kq ?_;refine zR 1 (fun _=>[(2,.imm (((bQ k l j).1.take (bQ k l j).2).map aa.str))]) (fun _=>[.box (GP l0),.arr 1 (CW k l j) (bif Nat.beq ((bQ k l j).2) 0 then 0 else (CW k l j).length)]) ?_ ?_;refine aJ kq ?_;apply iR;apply aR;apply aR;apply iR;apply aR;refine fm (l:=[.imm (((bQ k l j).1.take (bQ k l j).2).map aa.str)]) 2 [.box (GP l0),.arr 1 (((bQ k l j).1.map aa.str).take (0+(bQ k l j).2)++List.replicate (l.length - (bQ k l j).2) (iA 1)) (bif Nat.beq ((bQ k l j).2) 0 then 0 else (((bQ k l j).1.map aa.str).take (0+(bQ k l j).2)++List.replicate (l.length - (bQ k l j).2) (iA 1)).length)] (.inr rfl) kq dq kq GC t6 ?_
 . have e1:k=k0:=Th ha hk1 hk2 aq;have e2:j=l.length - k - 1:=by omega
   subst e1;subst e2;exact ⟨rfl,rfl⟩
 iterate 22 kernel_rfl
 apply qf (beq_eq_false_iff_ne.2 hb3);refine qk ?_ ?_;refine ag ?_;apply ab;apply zZ (mT [] [25]) id;apply qo;apply qr 1;refine qy (az (a:=((k:Nat):Int)) (b:=1) kq bm bm) ?_ ?_ ?_;apply qr 1;apply qe;refine ab ⟨k+1,?_,?_,(fg kq kq aA t6)⟩
 . omega
 . exact ⟨by omega,ST he hk2 aq⟩
 iterate 35 kernel_rfl
 . exfalso;omega
 iterate 19 kernel_rfl
noncomputable def Xp:Code:=fZ Tryz.f180
abbrev yi (l:List (List UInt8)):List aa:=[.imm (l.map aa.str)]
theorem tb (l:List bz) :av cx 180 (yi l) [] (fun v h=>v=.fn (.func 232) [] [.ptr 0 0]/\h=[.box [.imm (l.map .str)]]):=by
 refine ed (cx:=cx) 4 0 [mt] Tryz.func180 rfl rfl rfl rfl rfl zq ?_;show wpA cx 4 0 (at_ Xp []) _ _ _;refine zZ (fun _=>[(0,.imm (l.map aa.str))]) (fun _=>[]) ?_ ?_;apply zW 2 (mT [(1,.ptr 0 0)] [0]) (mH [] [.box (yi l)]);refine zW 2 (fun _=>[(2,.fn (.func 232) [] [.ptr 0 0])]) (fun _=>[.box (yi l)]) ?_ ?_;refine aJ kq ?_;refine fm (l:=[.fn (.func 232) [] [.ptr 0 0]]) 2 [.box (yi l)] (.inr rfl) kq (Nat.zero_le _) kq GC t6 ?_
 . exact ⟨rfl,rfl⟩
 iterate 3 kernel_rfl
theorem Kf (l:List bz) (hn:l.length<=1000000) (ha:∀ k,1<=k->k<(bw l).length->¬ (bw l).getD (0+k) []=(bw l).getD (0+(((k:Nat):Int) - 1).toNat) []):ae cx 112 (yi l) (.bool false):=by
 have hl:=(eM l).length_eq;refine fI 13 0 [mt] Tryz.func112 kq ?_;refine zZ (fun _=>[(0,.imm (l.map aa.str))]) (fun _=>[]) ?_ ?_;refine zW 1 (fun _=>[(0,.imm (l.map aa.str))]) (fun _=>[]) ?_ ?_;apply zV 1;refine qH (tb l) kq ?_;refine qH (wz (h:=[.box [.imm (l.map .str)]]) (o:=0) (ss:=l) (x:=.imm (l.map .str)) rfl rfl hn) kq ?_;refine zR 1 (fun _=>[(0,.imm (l.map aa.str)),(3,.own 1 0 (bw l).length)]) (fun _=>[.box (yi l),.arr 1 ((bw l).map aa.str) 0]) ?_ ?_;apply zV 1;refine qH (Qa l (bw l) oq ha) kq ?_;refine qy (cu (o:=1) (off:=0) (len:=((bw l).length)) (sz:=1) (es:=((bw l).map aa.str)) (fr:=0) kq a6 kq zq) ?_ ?_ ?_;apply qr 1;refine qy (aj (l:=l) (enc:=aa.str) kq a6) ?_ ?_ ?_;refine qX 2 ?_ ?_;refine aD (b:=(decide ((((bw l).length:Nat):Int)<((l.length:Nat):Int)))) (.inr rfl) kq ?_
 . exact decide_eq_false oq
 iterate 11 kernel_rfl
theorem F6 (l:List bz) (k0:Nat) (hn:l.length<=1000000) (h1:1<=k0) (h2:k0<(bw l).length) (ha:∀ k,1<=k->k<k0->¬ (bw l).getD (0+k) []=(bw l).getD (0+(((k:Nat):Int) - 1).toNat) []) (he:(bw l).getD (0+k0) []=(bw l).getD (G6 k0) []):ae cx 112 (yi l) (.bool true):=by
 have hl:=(eM l).length_eq;have hq:=Rq h2;refine fI 13 0 [mt] Tryz.func112 kq ?_;refine zZ (fun _=>[(0,.imm (f7 l))]) (fun _=>[]) ?_ ?_;refine zW 1 (fun _=>[(0,.imm (f7 l))]) (fun _=>[]) ?_ ?_;apply zV 1;refine qH (tb l) kq ?_;refine qH (wz (h:=[.box [.imm (l.map .str)]]) (o:=0) (ss:=l) (x:=.imm (l.map .str)) rfl rfl hn) kq ?_;refine zR 1 (fun _=>[(0,.imm (f7 l)),(3,.own 1 0 (bw l).length)]) (fun _=>[.box [.imm (f7 l)],.arr 1 ((bw l).map aa.str) 0]) ?_ ?_;apply zV 1;refine qH (Lu l (bw l) k0 oq h1 h2 ha he) kq ?_;refine qy (aj (l:=((bQ k0 (bw l) ((bw l).length - k0 - 1)).1.take (bQ k0 (bw l) ((bw l).length - k0 - 1)).2)) (enc:=aa.str) kq a6) ?_ ?_ ?_;apply qr 1;refine qy (aj (l:=l) (enc:=aa.str) kq a6) ?_ ?_ ?_;refine qX 2 ?_ ?_;refine aD (b:=(decide (((((bQ k0 (bw l) ((bw l).length - k0 - 1)).1.take (bQ k0 (bw l) ((bw l).length - k0 - 1)).2).length:Nat):Int)<((l.length:Nat):Int)))) (.inr rfl) kq ?_
 . refine decide_eq_true ?_;rw [List.length_take];omega
 iterate 11 kernel_rfl
theorem gl (l:List bz) (hn:l.length<=1000000):ae cx 112 [.imm (l.map .str)] (.bool (bA l)):=by
 rcases QE (bw l) with ha|⟨k0,h1,h2,ha,he⟩
 . rw [PI ha];exact Kf l hn ha
 . rw [LQ h1 h2 he];exact F6 l k0 hn h1 h2 ha he
theorem pG (l:List Tb) (n:List UInt8):cY l n=(l.find? (fun t=>t.name==n)).isSome:=by
 rw [Bool.eq_iff_iff,List.find?_isSome,cY,List.any_eq_true]
abbrev w5 (l:List Tb)(k:Nat):=l.getD k Tb.zero
theorem DU {l:List Tb} {n:List UInt8} {k:Nat} (hk:k<l.length) (ha:∀ i,i<k->¬ (l.getD i Tb.zero).name=n) (h:(w5 l k).name=n):cg l n=l.getD k Tb.zero/\cY l n=true:=by
 have:=wP (fun t:Tb=>t.name==n) Tb.zero l k hk (fun i hi=>by simpa using ha i hi) (by simpa using h);rw [pG];unfold cg;rw [this];exact ⟨rfl,rfl⟩
theorem DP {l:List Tb} {n:List UInt8} (ha:∀ i,i<l.length->¬ (l.getD i Tb.zero).name=n):cg l n=Tb.zero/\cY l n=false:=by
 have:=DR (fun t:Tb=>t.name==n) Tb.zero l (fun i hi=>by simpa using ha i hi);rw [pG];unfold cg;rw [this];exact ⟨rfl,rfl⟩
theorem M6 {l:List Tb} {n:List UInt8} (h:¬ cY l n=true):cg l n=Tb.zero:=by
 rw [pG] at h;unfold cg;cases hf:l.find? (fun t=>t.name==n) with
 | none=>rfl
 | some x=>rw [hf] at h;exact absurd rfl h
theorem Of (l:List Tb) (n:List UInt8):cg l n∈l\/cg l n=Tb.zero:=by
 unfold cg;cases hf:l.find? (fun t=>t.name==n) with
 | none=>exact .inr rfl
 | some x=>exact .inl (List.mem_of_find?_eq_some hf)
theorem Hn:Tb.zero.ok:=⟨by decide,by decide,by decide,fun c hc=>by cases hc⟩
theorem sg {l:List Tb} (h:∀ t∈l,t.ok) (n:List UInt8):(cg l n).ok:=by
 rcases Of l n with h1|h1
 . exact h _ h1
 . rw [h1];exact Hn
structure kx (D J O:List UInt8->Bool) (X:Ct->Bool) (U:Ty->Bool) (Y:Ex->Int) (s:Sc):Prop where
 n:s.sums.length<=100
 t:s.tabs.length<=100
 m:∀ k,(ba (s.sums.take k)).length<=10000
 c:∀ k,(s.sums.getD k Sm.zero).ctors.length<=1000
 sn:∀ x∈s.sums,ae cx 69 [.str x.name] (.bool (D x.name))
 cf:∀ c∈ba s.sums,ae cx 70 [.int .i64 3,.str c.name] (.bool (J c.name))
 cc:∀ c∈ba s.sums,ae cx 71 [c.v] (.bool (X c))
 tf:∀ t∈s.tabs,ae cx 70 [.int .i64 2,.str t.name] (.bool (O t.name))
 cl:∀ t∈s.tabs,∀ c∈t.cols,ae cx 70 [.int .i64 2,.str c.name] (.bool (O c.name))
 st:∀ t∈s.tabs,∀ c∈t.cols,ae cx 136 [.imm (s.sums.map Sm.v),c.type.v] (.bool (U c.type))
 ck:∀ t∈s.tabs,ae cx 77 [t.chk.v] (.int .i64 (Y t.chk))
 ok:∀ t∈s.tabs,t.ok
theorem kx.all {D J O:List UInt8->Bool} {X:Ct->Bool} {U:Ty->Bool} {Y:Ex->Int} {s:Sc} (h:kx D J O X U Y s):(ba s.sums).length<=10000:=by
 have:=h.m s.sums.length
 rwa [List.take_length] at this
abbrev mX :List (Nat×aa):=[(1,.ptr 0 0)]
theorem lW (t:Tb) :ae cx 116 [Tb.v t] (.str t.name):=by
 refine fI 5 0 [mt] Tryz.func116 kq ?_;refine zZ (fun _=>[(0,Tb.v t)]) (fun _=>[]) ?_ ?_;apply zW 2 (mT mX [0]) (mH [] [.box (Tb.cs t)]);refine zW 3 (fun _=>[(2,.str t.name)]) (fun _=>[.box (Tb.cs t)]) ?_ ?_;refine aJ kq ?_;refine AW (s:=t.name) (.inr rfl) kq ?_
 . rfl
 iterate 3 kernel_rfl
theorem aE {p:Prop} (h:p:=by simp [Ty.v,Ex.v,Ct.v,Co.v,Rf.v,Sm.v,Tb.v_cs,Sc.v,Md.v,Pb.v,Ls.v,-List.map_take,-List.map_drop,-List.map_append,-List.map_map]):p:=h
theorem xq (l:List Tb) (n:List UInt8) (hn:l.length<1000000000):ae cx 186 [.imm (l.map Tb.v),.fn (.func 116) [] [],.str n] (.tup [Tb.v (cg l n),.bool (cY l n)]):=by
 refine fI 25 0 [(ResultVar.cell 6 52),(ResultVar.tmp 7)] Tryz.func186 kq ?_;refine zZ (fun _=>[(xx l),(1,.fn (.func 116) [] []),(2,.str n)]) (fun _=>[]) ?_ ?_;apply zW 2 (mU jf) (mH [] [.box iZ]);apply ai;apply zV 1;refine qy (aj (l:=l) (enc:=Tb.v) kq cD) ?_ ?_ ?_;apply zR 1 (mT [(11,.imm (l.map Tb.v)),(12,nI l.length),(13,.int .i64 0)] [0]) id;apply qB 0;refine aT (σ:=Nat) (fun k=>[(1,.fn (.func 116) [] []),(2,.str n),(6,.ptr 0 0),(11,.imm (l.map Tb.v)),(12,.int .i64 ((l.length:Nat):Int)),(13,nI k)]) (fun k=>[.box iZ]) (fun k=>k<=l.length/\∀ i,i<k->¬ (l.getD i Tb.zero).name=n) (fun k=>l.length - k) 0 kq rA (fg kq kq aA yX) ?_;rintro k ⟨hk,ha⟩;apply zW 1 (mU [(14,.bool (decide (((k:Nat):Int)<((l.length:Nat):Int))))]) id;apply ai;by_cases hb1:((k:Nat):Int)<((l.length:Nat):Int);apply qt (decide_eq_true hb1);apply qK;apply zZ (mT [] [14]) id;apply ai;apply qB 1;refine zO ?_ ?_;refine qy ((au (k:=.i64) (l:=l) (enc:=Tb.v) (i:=((k:Nat):Int)) Tb.zero kq cD d3 (fun _=>rfl) oq oq).trans (congrArg (fun cs=>some (aa.pimm cs 0,_)) (cL (w5 l k)))) ?_ ?_ ?_;apply zR 3 (mU [(9,.ptr 1 0)]) (mH [] [.box (Tb.cs (w5 l k))]);apply zV 2;refine qP (lW (w5 l k)) aE aE aE kq ?_;apply zR 2 (mU [(21,.bool ((w5 l k).name==n))]) id;by_cases hb2:(w5 l k).name=n;apply qt (beq_iff_eq.2 hb2);refine zW 3 (fun _=>[(6,.ptr 0 0),(7,.bool true)]) (fun _=>[.box (Tb.cs (w5 l k)),.box (Tb.cs (w5 l k))]) ?_ ?_;refine aJ kq ?_;apply iR;apply aR;apply aR;apply iR;apply aR;refine cd (l:=[.agg (Tb.cs (w5 l k)),.bool true]) (.inr rfl) kq ?_
 rotate_left
 iterate 2 kernel_rfl
 apply qf (beq_eq_false_iff_ne.2 hb2);refine qk ?_ ?_;refine ag ?_;apply ab;apply zZ (mT [] [9,21]) id;apply qo;refine qy (az (a:=((k:Nat):Int)) (b:=1) kq oq oq) ?_ ?_ ?_;apply qr 1;apply qe;refine ab ⟨k+1,?_,?_,(fg kq kq aA yX)⟩
 . omega
 . refine ⟨by omega,fun i hi=>?_⟩;rcases Nat.lt_succ_iff_lt_or_eq.1 hi with h|h
   . exact ha i h
   . subst h;assumption
 iterate 20 kernel_rfl
 apply qf (decide_eq_false hb1);refine aK 0 kq kq ?_;apply ac;apply ac;refine ao ?_;apply ab;refine zZ (fun _=>jf) id ?_ ?_;apply zW 1 (mU [(10,.ptr 1 0)]) (mH [] [.box iZ]);refine zW 3 (fun _=>[(6,.ptr 0 0),(7,.bool false)]) (fun _=>[.box iZ,.box iZ]) ?_ ?_;refine aJ kq ?_;refine cd (l:=[.agg [.str [],.full [],.full [],.full [],.int .i64 0,.str [],.int .i64 0,.str [],.full [],.full [],.full [],.int .i64 0,.int .i64 0],.bool false]) (.inr rfl) kq ?_
 rotate_left
 iterate 15 kernel_rfl
 all_goals
  first|(rw [(DU (l:=l) (n:=n) (k:=k) oq ha aq).1,(DU (l:=l) (n:=n) (k:=k) oq ha aq).2];simp [aZ,aa.frz,aN,Tb.v,Tb.cs];done)|(rw [(DP (l:=l) (n:=n) (fun i hi=>ha i oq)).1,(DP (l:=l) (n:=n) (fun i hi=>ha i oq)).2];simp [aZ,aa.frz,aN,Tb.v,Tb.cs,Tb.zero,Ex.zero,Ex.kind,Ex.name,Ex.n,Ex.s,Ex.names,Ex.binds,Ex.kids,Ex.pos,Ex.fin];done)
abbrev PJ (s:Sc)(n:List UInt8):List aa:=[.str (cg s.tabs n).name,.imm (((cg s.tabs n).cols).map Co.v),.imm (((cg s.tabs n).key).map aa.str),.imm (((cg s.tabs n).refs).map Rf.v),.int .i64 ((cg s.tabs n).chk.kind),.str (cg s.tabs n).chk.name,.int .i64 ((cg s.tabs n).chk.n),.str (cg s.tabs n).chk.s,.imm ((cg s.tabs n).chk.names.map aa.str),.imm ((cg s.tabs n).chk.binds.map aa.str),.imm ((cg s.tabs n).chk.kids.map Ex.enc),.int .i64 ((cg s.tabs n).chk.pos),.int .i64 ((cg s.tabs n).chk.fin)]
theorem tK (s:Sc) (n:List UInt8) (hz1:s.tabs.length<=100) (hz2:∀ t∈s.tabs,t.ok):ae cx 133 [Sc.v s,.str n] (.tup [Tb.v (cg s.tabs n),.bool (cY s.tabs n)]):=by
 have hzt:=sg hz2 n;have hzc:=hzt.c;have hzk:=hzt.k;have hzr:=hzt.r;refine fI 31 0 [(ResultVar.cell 4 52),(ResultVar.tmp 5)] Tryz.func133 kq ?_;refine zZ (fun _=>[(0,Sc.v s),(1,.str n)]) (fun _=>[]) ?_ ?_;apply zW 3 (mT [(2,.ptr 0 0),(4,.ptr 1 0)] [0]) (mH [] [.box (eB s),.box iZ]);apply zV 3;refine qP (xq s.tabs n gx) aE aE aE kq ?_;apply zR 6 (mT [(6,.ptr 2 0),(7,.bool (cY s.tabs n))] [1,2]) (mH [] [.box (Tb.cs (cg s.tabs n))]);apply ai;apply zW 2 (mT [(16,.bool (!(cY s.tabs n)))] [7]) id;by_cases hb1:(cY s.tabs n)=true;refine qf (x:=(!(cY s.tabs n))) (congrArg not (hb1)) ?_ ?_;apply qK;apply zZ (mT [] [16]) id;apply ai;refine zD cxM kq ax ?_;apply qu 2;refine qQ (En ((cg s.tabs n).cols) gx) aE aE aE kq ?_;apply qu 2;refine qQ (A5 ((cg s.tabs n).key) gx) aE aE aE kq ?_;apply qu 2;refine qQ (EA ((cg s.tabs n).refs) gx) aE aE aE kq ?_;apply qu 6;refine bY kq ⟨kq,?_⟩;refine zE id (mO [(2,.box (PJ s n))]) ?_ ?_;refine zW 3 (fun _=>[(4,.ptr 1 0),(5,.bool true)]) (fun _=>[.box (eB s),.box (PJ s n),.box (PJ s n)]) ?_ ?_;refine aJ kq ?_;refine cd (l:=[.agg [.str (cg s.tabs n).name,.imm (((cg s.tabs n).cols).map Co.v),.imm (((cg s.tabs n).key).map aa.str),.imm (((cg s.tabs n).refs).map Rf.v),.int .i64 ((cg s.tabs n).chk.kind),.str (cg s.tabs n).chk.name,.int .i64 ((cg s.tabs n).chk.n),.str (cg s.tabs n).chk.s,.imm ((cg s.tabs n).chk.names.map aa.str),.imm ((cg s.tabs n).chk.binds.map aa.str),.imm ((cg s.tabs n).chk.kids.map Ex.enc),.int .i64 ((cg s.tabs n).chk.pos),.int .i64 ((cg s.tabs n).chk.fin)],.bool true]) (.inr rfl) kq ?_
 rotate_left
 iterate 10 kernel_rfl
 refine qt (x:=(!(cY s.tabs n))) (congrArg not (Bool.eq_false_iff.2 hb1)) ?_ ?_;refine zW 3 (fun _=>[(4,.ptr 1 0),(5,.bool false)]) (fun _=>[.box (eB s),.box iZ,.box (Tb.cs (cg s.tabs n))]) ?_ ?_;refine aJ kq ?_;apply aR;refine cd (l:=[.agg [.str [],.full [],.full [],.full [],.int .i64 0,.str [],.int .i64 0,.str [],.full [],.full [],.full [],.int .i64 0,.int .i64 0],.bool false]) (.inr rfl) kq ?_
 rotate_left
 iterate 8 kernel_rfl
 all_goals
  first|(rw [(by assumption:cY s.tabs n=true)];simp [aZ,aa.frz,aN,Tb.v,Tb.cs];done)|(rw [Bool.eq_false_iff.2 (by assumption:¬ cY s.tabs n=true),M6 aq];simp [aZ,aa.frz,aN,Tb.v,Tb.cs,Tb.zero,Ex.zero,Ex.kind,Ex.name,Ex.n,Ex.s,Ex.names,Ex.binds,Ex.kids,Ex.pos,Ex.fin];done)
theorem Nh (t:Tb) (ht:t.ok):ae cx 48 [Tb.v t] (.bool (Nat.ble t.cols.length 8)):=by
 have h1:=ht.c;refine fI 7 0 [mt] Tryz.func48 kq ?_;refine zZ (fun _=>[(0,Tb.v t)]) (fun _=>[]) ?_ ?_;refine zW 2 (fun _=>mX) (fun _=>[.box (Tb.cs t)]) ?_ ?_;apply zV 2;refine qy (aj (l:=t.cols) (enc:=Co.v) kq em) ?_ ?_ ?_;refine qX 2 ?_ ?_;refine aD (b:=(decide (((t.cols.length:Nat):Int)<=8))) (.inr rfl) kq ?_
 . rw [Bool.eq_iff_iff,iw,decide_eq_true_eq];omega
 iterate 6 kernel_rfl
theorem JY (x:Sm) (b:Bool) (h:ae cx 69 [.str x.name] (.bool b)):ae cx 105 [Sm.v x] (.bool (b)):=by
 refine fI 6 0 [mt] Tryz.func105 kq ?_;refine zZ (fun _=>[(0,Sm.v x)]) (fun _=>[]) ?_ ?_;refine zW 2 (fun _=>mX) (fun _=>[.box [.str x.name,.imm (x.ctors.map Ct.v)]]) ?_ ?_;apply zV 2;refine qc [.str x.name] (h) ?_ ?_;refine qX 1 ?_ ?_;refine aD (b:=(b)) (.inr rfl) kq ?_
 . rfl
 iterate 5 kernel_rfl
theorem Hd (c:Ct) (b:Bool) (h:ae cx 70 [.int .i64 3,.str c.name] (.bool b)):ae cx 108 [Ct.v c] (.bool (b)):=by
 refine fI 6 0 [mt] Tryz.func108 kq ?_;refine zZ (fun _=>[(0,Ct.v c)]) (fun _=>[]) ?_ ?_;refine zW 2 (fun _=>mX) (fun _=>[.box [.str c.name,.bool (c.has),.int .i64 (c.arg.kind),.str c.arg.name,.int .i64 (c.arg.n),.imm (c.arg.names.map aa.str),.imm (c.arg.kids.map Ty.enc)]]) ?_ ?_;apply zV 2;refine qc [.int .i64 3,.str c.name] (h) ?_ ?_;refine qX 1 ?_ ?_;refine aD (b:=(b)) (.inr rfl) kq ?_
 . rfl
 iterate 5 kernel_rfl
theorem Fk (c:Co) (b:Bool) (h:ae cx 70 [.int .i64 2,.str c.name] (.bool b)):ae cx 111 [Co.v c] (.bool (b)):=by
 refine fI 6 0 [mt] Tryz.func111 kq ?_;refine zZ (fun _=>[(0,Co.v c)]) (fun _=>[]) ?_ ?_;refine zW 2 (fun _=>mX) (fun _=>[.box [.str c.name,.int .i64 (c.type.kind),.str c.type.name,.int .i64 (c.type.n),.imm (c.type.names.map aa.str),.imm (c.type.kids.map Ty.enc)]]) ?_ ?_;apply zV 2;refine qc [.int .i64 2,.str c.name] (h) ?_ ?_;refine qX 1 ?_ ?_;refine aD (b:=(b)) (.inr rfl) kq ?_
 . rfl
 iterate 5 kernel_rfl
theorem Ki (t:Tb) (O:List UInt8->Bool) (ht:t.ok) (h:ae cx 70 [.int .i64 2,.str t.name] (.bool (O t.name))) (hc:∀ c∈t.cols,ae cx 70 [.int .i64 2,.str c.name] (.bool (O c.name))):ae cx 109 [Tb.v t] (.bool (O t.name && t.cols.all (fun x=>O x.name))):=by
 have h1:=ht.c;refine fI 11 0 [mt] Tryz.func109 kq ?_;refine zZ (fun _=>[(0,Tb.v t)]) (fun _=>[]) ?_ ?_;refine zW 2 (fun _=>mX) (fun _=>[.box (Tb.cs t)]) ?_ ?_;apply zV 2;refine qc [.int .i64 2,.str t.name] (h) ?_ ?_;apply qr 1;by_cases hb1:(O t.name)=true;refine zm [5,6] (hb1) ?_ ?_;apply qr 2;refine qP (MN t.cols 111 (fun x=>O x.name) ⟨fun x hx=>Fk x _ (hc x hx),ar⟩) aE aE aE kq ?_;refine qX 2 ?_ ?_;refine aD (b:=(t.cols.all (fun x=>O x.name))) (.inr rfl) kq ?_
 . simp [*]
 iterate 3 kernel_rfl
 refine zm [5,6] (Bool.eq_false_iff.2 hb1) ?_ ?_;refine qX 5 ?_ ?_;refine aD (b:=false) (.inr rfl) kq ?_
 . simp [*]
 iterate 7 kernel_rfl
theorem qj (t:Sm) :ae cx 114 [Sm.v t] (.str t.name):=by
 refine fI 5 0 [mt] Tryz.func114 kq ?_;refine zZ (fun _=>[(0,Sm.v t)]) (fun _=>[]) ?_ ?_;apply zW 2 (mT mX [0]) (mH [] [.box [.str t.name,.imm (t.ctors.map Ct.v)]]);refine zW 3 (fun _=>[(2,.str t.name)]) (fun _=>[.box [.str t.name,.imm (t.ctors.map Ct.v)]]) ?_ ?_;refine aJ kq ?_;refine AW (s:=t.name) (.inr rfl) kq ?_
 . rfl
 iterate 3 kernel_rfl
theorem JF (t:Ct) :ae cx 118 [Ct.v t] (.str t.name):=by
 refine fI 5 0 [mt] Tryz.func118 kq ?_;refine zZ (fun _=>[(0,Ct.v t)]) (fun _=>[]) ?_ ?_;apply zW 2 (mT mX [0]) (mH [] [.box [.str t.name,.bool (t.has),.int .i64 (t.arg.kind),.str t.arg.name,.int .i64 (t.arg.n),.imm (t.arg.names.map aa.str),.imm (t.arg.kids.map Ty.enc)]]);refine zW 3 (fun _=>[(2,.str t.name)]) (fun _=>[.box [.str t.name,.bool (t.has),.int .i64 (t.arg.kind),.str t.arg.name,.int .i64 (t.arg.n),.imm (t.arg.names.map aa.str),.imm (t.arg.kids.map Ty.enc)]]) ?_ ?_;refine aJ kq ?_;refine AW (s:=t.name) (.inr rfl) kq ?_
 . rfl
 iterate 3 kernel_rfl
theorem GI (t:Rf) :ae cx 123 [Rf.v t] (.str t.col):=by
 refine fI 5 0 [mt] Tryz.func123 kq ?_;refine zZ (fun _=>[(0,Rf.v t)]) (fun _=>[]) ?_ ?_;apply zW 2 (mT mX [0]) (mH [] [.box [.str t.col,.str t.tab]]);refine zW 3 (fun _=>[(2,.str t.col)]) (fun _=>[.box [.str t.col,.str t.tab]]) ?_ ?_;refine aJ kq ?_;refine AW (s:=t.col) (.inr rfl) kq ?_
 . rfl
 iterate 3 kernel_rfl
theorem Hz (t:Tb) (ht:t.ok):ae cx 119 [Tb.v t] (.bool (!bA (t.cols.map Co.name) && (!bA t.key && !bA (t.refs.map Rf.col)))):=by
 have h1:=ht.c;have h2:=ht.k;have h3:=ht.r;refine fI 21 0 [mt] Tryz.func119 kq ?_;refine zZ (fun _=>[(0,Tb.v t)]) (fun _=>[]) ?_ ?_;refine zW 2 (fun _=>mX) (fun _=>[.box (Tb.cs t)]) ?_ ?_;apply zV 2;refine qP (QG t.cols 121 Co.name (fun x _=>qa x) ar) aE aE aE kq ?_;refine qP (gl (t.cols.map Co.name) ar) aE aE aE kq ?_;apply qr 2;by_cases hb1:(bA (t.cols.map Co.name))=true;refine zm [7,8] (x:=(!(bA (t.cols.map Co.name)))) (congrArg not (hb1)) ?_ ?_;refine qX 13 ?_ ?_;refine aD (b:=false) (.inr rfl) kq ?_
 . simp [*]
 iterate 2 kernel_rfl
 refine zm [7,8] (x:=(!(bA (t.cols.map Co.name)))) (congrArg not (Bool.eq_false_iff.2 hb1)) ?_ ?_;apply qr 2;refine qP (gl t.key ar) aE aE aE kq ?_;apply qr 3;by_cases hb2:(bA t.key)=true;refine zm [12,13,14] (x:=(!(bA t.key))) (congrArg not (hb2)) ?_ ?_;refine qX 7 ?_ ?_;refine aD (b:=false) (.inr rfl) kq ?_
 . simp [*]
 iterate 2 kernel_rfl
 refine zm [12,13,14] (x:=(!(bA t.key))) (congrArg not (Bool.eq_false_iff.2 hb2)) ?_ ?_;apply qr 2;refine qP (P3 t.refs 123 Rf.col (fun x _=>GI x) ar) aE aE aE kq ?_;refine qP (gl (t.refs.map Rf.col) ar) aE aE aE kq ?_;refine qX 3 ?_ ?_;refine aD (b:=(!(bA (t.refs.map Rf.col)))) (.inr rfl) kq ?_
 . simp [*]
 iterate 10 kernel_rfl
theorem Kd (x:Sm) (h:x.ctors.length<1000000000):ae cx 125 [Sm.v x] (.bool (!x.ctors.isEmpty)):=by
 refine fI 7 0 [mt] Tryz.func125 kq ?_;refine zZ (fun _=>[(0,Sm.v x)]) (fun _=>[]) ?_ ?_;refine zW 2 (fun _=>mX) (fun _=>[.box [.str x.name,.imm (x.ctors.map Ct.v)]]) ?_ ?_;apply zV 2;refine qy (aj (l:=x.ctors) (enc:=Ct.v) kq gM) ?_ ?_ ?_;refine qX 2 ?_ ?_;refine aD (b:=(decide (((x.ctors.length:Nat):Int) > 0))) (.inr rfl) kq ?_
 . cases x.ctors <;> simp
 iterate 6 kernel_rfl
theorem Uu {t:Tb} (h:¬ ((t.key.length:Nat):Int) >= 1):bn t=true:=by unfold bn;rw [show Nat.blt t.key.length 1=true by rw [Nat.blt_eq];omega];rfl
theorem VC {t:Tb} (h:¬ ((t.key.length:Nat):Int)<=3):bn t=true:=by unfold bn;rw [show Nat.blt 3 t.key.length=true by rw [Nat.blt_eq];omega,Bool.or_true]
theorem SV {t:Tb} (h:((t.key.length:Nat):Int) >= 1) (h2:((t.key.length:Nat):Int)<=3):bn t=false:=by unfold bn;rw [sc.2 oq,sc.2 oq];rfl
theorem Jo (t:Tb) (Y:Ex->Int) (ht:t.ok) (h:ae cx 77 [t.chk.v] (.int .i64 (Y t.chk))):ae cx 126 [Tb.v t] (.bool (!bn t && Y t.chk==0)):=by
 have h2:=ht.k;refine fI 19 0 [mt] Tryz.func126 kq ?_;refine zZ (fun _=>[(0,Tb.v t)]) (fun _=>[]) ?_ ?_;apply zW 2 (mT mX [0]) (mH [] [.box (Tb.cs t)]);apply zV 2;refine qy (aj (l:=t.key) (enc:=aa.str) kq a6) ?_ ?_ ?_;apply qr 2;by_cases hb1:((t.key.length:Nat):Int) >= 1;refine zm [6,7] (decide_eq_true hb1) ?_ ?_;apply qr 2;refine qy (aj (l:=t.key) (enc:=aa.str) kq a6) ?_ ?_ ?_;apply qr 3;by_cases hb2:((t.key.length:Nat):Int)<=3;refine zm [11,12,13] (decide_eq_true hb2) ?_ ?_;apply qr 2;refine qP (h) aE aE aE kq ?_;refine qX 3 ?_ ?_;refine aD (b:=((Y t.chk)==0)) (.inr rfl) kq ?_;by_cases hb3:(Y t.chk)=0;refine Eq.trans (beq_iff_eq.2 hb3) ?_
 rotate_left
 refine Eq.trans (beq_eq_false_iff_ne.2 hb3) ?_
 rotate_left
 iterate 3 kernel_rfl
 refine zm [11,12,13] (decide_eq_false hb2) ?_ ?_;refine qX 6 ?_ ?_;refine aD (b:=false) (.inr rfl) kq ?_
 rotate_left
 iterate 7 kernel_rfl
 refine zm [6,7] (decide_eq_false hb1) ?_ ?_;refine qX 12 ?_ ?_;refine aD (b:=false) (.inr rfl) kq ?_
 rotate_left
 iterate 8 kernel_rfl
 all_goals
  first|(rw [Uu aq];simp [*];done)|(rw [VC aq];simp [*];done)|(rw [SV aq aq];simp [*];done)
end Go.Proofs.YtcpklndelobigaaGreatDoor
