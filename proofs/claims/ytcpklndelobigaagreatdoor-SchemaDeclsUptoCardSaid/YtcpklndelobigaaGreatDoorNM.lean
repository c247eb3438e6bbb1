/- schema.Equal is the equality of the data. Condition: sizes that can be had. -/
import Derived.Test.YtcpklndelobigaaGreatDoorS1
set_option linter.all false
namespace Go.Proofs.YtcpklndelobigaaGreatDoor
open Go.Proofs.YtcpklndelobigaaGreatDoor.Abs
set_option maxRecDepth 20000
set_option maxHeartbeats 4000000
theorem nD {p:Prop} (h:p:=by simp [Ty.v,Ex.v,Ct.v,Co.v,Rf.v,Sm.v,Tb.v,Sc.v]):p:=h
theorem gK {p:Prop} (h:p:=by simp [aZ]):p:=h
abbrev kP :List aa:=[.fn (.func 57) [] []]
abbrev xM :List aa:=[.bool false]
abbrev Qp (a:Sm):List aa:=[.str a.name,.imm (a.ctors.map Ct.v)]
abbrev QC (b:Sm):List aa:=[.str b.name,.imm (b.ctors.map Ct.v)]
abbrev yS :List (Nat×aa):=[(5,.bool false)]
theorem zM (a b:Sm) (hs:a.sm):av cx 59 [Sm.v a,Sm.v b,.ptr 0 0] [.box kP] (fun v h=>v=(.bool (a.beq b))/\h=[.box kP]):=by
 have hc:∀ i,i<a.ctors.length->i<b.ctors.length->ae cx 57 [(a.ctors.getD i Ct.zero).v,(b.ctors.getD i Ct.zero).v] (.bool ((a.ctors.getD i Ct.zero).beq (b.ctors.getD i Ct.zero))):=fun i h _=>xL _ _ (hs.2 _ (aH _ _ _ h))
 have hz1:=hs.1;refine fI 19 1 [(ResultVar.tmp 5)] Tryz.func59 kq ?_;refine zZ (fun _=>[(0,Sm.v a),(1,Sm.v b),(2,.ptr 0 0)]) (fun _=>[.box kP]) ?_ ?_;apply zW 3 (mT [(3,.ptr 1 0),(4,.ptr 2 0)] [0,1]) (mH [] [.box (Qp a),.box (QC b)]);apply zV 6;by_cases hb1:a.name=b.name;refine zm [10,11] (beq_iff_eq.2 hb1) ?_ ?_;apply qr 5;refine qP (uJ a.ctors b.ctors 57 Ct.beq (hc) oq) nD nD nD kq ?_;refine zR 2 (fun _=>[(5,.bool (br Ct.beq a.ctors b.ctors))]) (fun _=>[.box kP,.box (Qp a),.box (QC b)]) ?_ ?_;refine aJ kq ?_;refine aO (l:=[.bool (br Ct.beq a.ctors b.ctors)]) (.inr rfl) kq (by simp_all [aZ,aa.frz,Sm.beq]) gK gK ?_ ?_;refine Eq.trans (b:=[.box kP]) kq ?_
 . simp
 . simp [am.belO]
 iterate 3 kernel_rfl
 refine zm [10,11] (beq_eq_false_iff_ne.2 hb1) ?_ ?_;refine zR 8 (fun _=>yS) (fun _=>[.box kP,.box (Qp a),.box (QC b)]) ?_ ?_;refine aJ kq ?_;refine aO (l:=xM) (.inr rfl) kq (by simp_all [aZ,aa.frz,Sm.beq]) gK gK ?_ ?_;refine Eq.trans (b:=[.box kP]) kq ?_
 . simp
 . simp [am.belO]
 iterate 5 kernel_rfl
abbrev Un (a:Tb):List aa:=[.str a.name,.imm (a.cols.map Co.v),.imm (a.key.map aa.str),.imm (a.refs.map Rf.v),.int .i64 (a.chk.kind),.str a.chk.name,.int .i64 (a.chk.n),.str a.chk.s,.imm (a.chk.names.map aa.str),.imm (a.chk.binds.map aa.str),.imm (a.chk.kids.map Ex.enc),.int .i64 (a.chk.pos),.int .i64 (a.chk.fin)]
abbrev UE (b:Tb):List aa:=[.str b.name,.imm (b.cols.map Co.v),.imm (b.key.map aa.str),.imm (b.refs.map Rf.v),.int .i64 (b.chk.kind),.str b.chk.name,.int .i64 (b.chk.n),.str b.chk.s,.imm (b.chk.names.map aa.str),.imm (b.chk.binds.map aa.str),.imm (b.chk.kids.map Ex.enc),.int .i64 (b.chk.pos),.int .i64 (b.chk.fin)]
theorem IF {p:Prop} (h:p:=by simp_all [aZ,aa.frz,Tb.beq]):p:=h
theorem Ll {p:Prop} (h:p:=by first|omega|assumption):p:=h
abbrev jP :List aa:=[.fn (.func 61) [] []]
abbrev Iv (a:Tb)(b:Tb):List am:=[.box jP,.box (Un a),.box (UE b)]
theorem A1 (a b:Tb) (hs:a.sm):av cx 62 [Tb.v a,Tb.v b,.ptr 0 0] [.box jP] (fun v h=>v=(.bool (a.beq b))/\h=[.box jP]):=by
 have hc:∀ i,i<a.cols.length->i<b.cols.length->ae cx 61 [(a.cols.getD i Co.zero).v,(b.cols.getD i Co.zero).v] (.bool ((a.cols.getD i Co.zero).beq (b.cols.getD i Co.zero))):=fun i h _=>xQ _ _ (hs.2.1 _ (aH _ _ _ h))
 have hz1:=hs.1;have hz3:=hs.2.2.1;have hz4:=hs.2.2.2.1;have hz5:=hs.2.2.2.2;refine fI 40 1 [(ResultVar.tmp 5)] Tryz.func62 kq ?_;refine zZ (fun _=>[(0,Tb.v a),(1,Tb.v b),(2,.ptr 0 0)]) (fun _=>[.box jP]) ?_ ?_;apply zW 3 (mT [(3,.ptr 1 0),(4,.ptr 2 0)] [0,1]) (mH [] [.box (Un a),.box (UE b)]);apply zV 6;by_cases hb1:a.name=b.name;refine zm [10,11] (beq_iff_eq.2 hb1) ?_ ?_;apply qr 5;refine qP (uK a.cols b.cols 61 Co.beq (hc) Ll) nD nD nD kq ?_;apply qr 2;by_cases hb2:(br Co.beq a.cols b.cols)=true;refine zm [17,18,19] (hb2) ?_ ?_;apply qr 4;refine qP (fF a.key b.key Ll) nD nD nD kq ?_;apply qr 2;by_cases hb3:(a.key==b.key)=true;refine zm [24,25,26] (hb3) ?_ ?_;apply qr 4;refine qP (yb a.refs b.refs Ll) nD nD nD kq ?_;apply qr 2;by_cases hb4:(br Rf.beq a.refs b.refs)=true;refine zm [31,32,33] (hb4) ?_ ?_;apply qr 4;refine qP (AJ a.chk b.chk Ll) nD nD nD kq ?_;refine zR 2 (fun _=>[(5,.bool (a.chk.beq b.chk))]) (fun _=>(Iv a b)) ?_ ?_;refine aJ kq ?_;refine aO (l:=[.bool (a.chk.beq b.chk)]) (.inr rfl) kq IF gK gK ?_ ?_;refine Eq.trans (b:=[.box jP]) kq ?_
 . simp
 . simp [am.belO]
 iterate 3 kernel_rfl
 refine zm [31,32,33] (Bool.eq_false_iff.2 hb4) ?_ ?_;refine zR 7 (fun _=>yS) (fun _=>(Iv a b)) ?_ ?_;refine aJ kq ?_;refine aO (l:=xM) (.inr rfl) kq IF gK gK ?_ ?_;refine Eq.trans (b:=[.box jP]) kq ?_
 . simp
 . simp [am.belO]
 iterate 5 kernel_rfl
 refine zm [24,25,26] (Bool.eq_false_iff.2 hb3) ?_ ?_;refine zR 14 (fun _=>yS) (fun _=>(Iv a b)) ?_ ?_;refine aJ kq ?_;refine aO (l:=xM) (.inr rfl) kq IF gK gK ?_ ?_;refine Eq.trans (b:=[.box jP]) kq ?_
 . simp
 . simp [am.belO]
 iterate 5 kernel_rfl
 refine zm [17,18,19] (Bool.eq_false_iff.2 hb2) ?_ ?_;refine zR 21 (fun _=>yS) (fun _=>(Iv a b)) ?_ ?_;refine aJ kq ?_;refine aO (l:=xM) (.inr rfl) kq IF gK gK ?_ ?_;refine Eq.trans (b:=[.box jP]) kq ?_
 . simp
 . simp [am.belO]
 iterate 5 kernel_rfl
 refine zm [10,11] (beq_eq_false_iff_ne.2 hb1) ?_ ?_;refine zR 29 (fun _=>yS) (fun _=>(Iv a b)) ?_ ?_;refine aJ kq ?_;refine aO (l:=xM) (.inr rfl) kq IF gK gK ?_ ?_;refine Eq.trans (b:=[.box jP]) kq ?_
 . simp
 . simp [am.belO]
 iterate 5 kernel_rfl
theorem Rw {p:Prop} (h:p:=by first|(simp [aZ,aa.frz];first|exact (cT Sm.beq a b oq).symm|exact cT Sm.beq a b oq|exact cq Sm.beq Sm.zero Sm.zero a b oq (fun i hi=>ha i oq)|exact ef Sm.beq Sm.zero Sm.zero a b k oq oq (Bool.eq_false_iff.2 aq))):p:=h
theorem rQ {p:Prop} (h:p:=by simp [am.belO]):p:=h
abbrev tk (a:List Sm)(k:Nat):=a.getD k Sm.zero
abbrev uF (b:List Sm)(k:Nat):=b.getD k Sm.zero
theorem ya (a b:List Sm) (hs:∀ x∈a,x.sm) (hn:a.length<1000000000):av cx 67 [.imm (a.map Sm.v),.imm (b.map Sm.v),.fn (.func 59) [] [.ptr 0 0]] [.box kP] (fun v h=>v=(.bool (br Sm.beq a b))/\h=[.box kP]):=by
 refine fI 32 1 [(ResultVar.tmp 6)] Tryz.func67 kq ?_;refine zZ (fun _=>[(0,.imm (a.map Sm.v)),(1,.imm (b.map Sm.v)),(2,.fn (.func 59) [] [.ptr 0 0])]) (fun _=>[.box kP]) ?_ ?_;apply zW 1 id id;apply ai;apply zV 1;refine qy (aj (l:=a) (enc:=Sm.v) kq di) ?_ ?_ ?_;apply qr 1;refine qy (aj (l:=b) (enc:=Sm.v) kq di) ?_ ?_ ?_;apply zR 1 (mU [(14,.bool (((a.length:Nat):Int) != ((b.length:Nat):Int)))]) id;by_cases hb1:((a.length:Nat):Int)=((b.length:Nat):Int);refine qf (x:=(((a.length:Nat):Int) != ((b.length:Nat):Int))) (bne_eq_false_iff_eq.2 hb1) ?_ ?_;apply qK;apply zZ (mT [] [14]) id;apply ai;apply zV 1;refine qy (aj (l:=a) (enc:=Sm.v) kq di) ?_ ?_ ?_;apply zR 1 (mT [(15,.imm (a.map Sm.v)),(16,nI a.length),(17,.int .i64 0)] [0]) id;apply qB 0;refine aT (σ:=Nat) (fun k=>[(1,.imm (b.map Sm.v)),(2,.fn (.func 59) [] [.ptr 0 0]),(15,.imm (a.map Sm.v)),(16,.int .i64 ((a.length:Nat):Int)),(17,nI k)]) (fun k=>[.box kP]) (fun k=>k<=a.length/\∀ i,i<k->(a.getD i Sm.zero).beq (b.getD i Sm.zero)=true) (fun k=>a.length - k) 0 kq zq (fg kq kq aA rQ) ?_;rintro k ⟨hk,ha⟩;apply zW 1 (mU [(18,.bool (decide (((k:Nat):Int)<((a.length:Nat):Int))))]) id;apply ai;by_cases hb2:((k:Nat):Int)<((a.length:Nat):Int);apply qt (decide_eq_true hb2);apply qK;apply zZ (mT [] [18]) id;apply ai;apply qB 1;apply zV 1;refine qy ((au (k:=.i64) (l:=a) (enc:=Sm.v) (i:=((k:Nat):Int)) Sm.zero kq di e9 (fun _=>rfl) oq oq).trans (congrArg (fun cs=>some (aa.pimm cs 0,_)) (cr (tk a k)))) ?_ ?_ ?_;apply zR 4 (mU [(7,nI k),(8,.ptr 1 0)]) (mH [] [.box [.str (tk a k).name,.imm ((tk a k).ctors.map Ct.v)]]);apply zV 2;refine qy ((au (k:=.i64) (l:=b) (enc:=Sm.v) (i:=((k:Nat):Int)) Sm.zero kq di e9 (fun _=>rfl) oq oq).trans (congrArg (fun cs=>some (aa.pimm cs 0,_)) (cr (uF b k)))) ?_ ?_ ?_;apply zR 3 (mT [(9,.ptr 2 0)] [7]) (mH [] [.box [.str (uF b k).name,.imm ((uF b k).ctors.map Ct.v)]]);apply zV 3;refine qA (zM (tk a k) (uF b k) (hs (tk a k) (aH a Sm.zero k oq))) rQ rQ rfl rQ rQ kq ?_;apply zR 1 (mT [(30,.bool (!((tk a k).beq (uF b k))))] [8,9]) id;by_cases hb3:((tk a k).beq (uF b k))=true;refine qf (x:=(!((tk a k).beq (uF b k)))) (congrArg not (hb3)) ?_ ?_;refine qk ?_ ?_;refine ag ?_;apply ab;apply zZ (mT [] [30]) id;apply qo;refine qy (az (a:=((k:Nat):Int)) (b:=1) kq oq oq) ?_ ?_ ?_;apply qr 1;apply qe;refine ab ⟨k+1,?_,?_,(fg kq kq aA rQ)⟩
 . omega
 . refine ⟨by omega,fun i hi=>?_⟩;rcases Nat.lt_succ_iff_lt_or_eq.1 hi with h|h
   . exact ha i h
   . subst h;assumption
 iterate 8 kernel_rfl
 refine qt (x:=(!((tk a k).beq (uF b k)))) (congrArg not (Bool.eq_false_iff.2 hb3)) ?_ ?_;refine zW 1 (fun _=>[(6,.bool false)]) (fun _=>[.box kP,.box [.str (tk a k).name,.imm ((tk a k).ctors.map Ct.v)],.box [.str (uF b k).name,.imm ((uF b k).ctors.map Ct.v)]]) ?_ ?_;refine aJ kq ?_;apply iR;apply aR;apply aR;apply iR;apply aR;refine aO (l:=xM) (.inr rfl) kq Rw gK gK ?_ ?_;refine Eq.trans (b:=[.box kP]) kq ?_
 . simp
 . simp [am.belO]
 iterate 18 kernel_rfl
 apply qf (decide_eq_false hb2);refine aK 0 kq kq ?_;apply ac;apply ac;refine ao ?_;apply ab;refine zZ (fun _=>[]) id ?_ ?_;refine zW 1 (fun _=>[(6,.bool true)]) (fun _=>[.box kP]) ?_ ?_;refine aJ kq ?_;refine aO (l:=[.bool true]) (.inr rfl) kq Rw gK gK ?_ ?_;refine Eq.trans (b:=[.box kP]) kq ?_
 . simp
 . simp [am.belO]
 iterate 15 kernel_rfl
 refine qt (x:=(((a.length:Nat):Int) != ((b.length:Nat):Int))) (bne_iff_ne.2 hb1) ?_ ?_;refine zW 1 (fun _=>[(6,.bool false)]) (fun _=>[.box kP]) ?_ ?_;refine aJ kq ?_;apply aR;refine aO (l:=xM) (.inr rfl) kq Rw gK gK ?_ ?_;refine Eq.trans (b:=[.box kP]) kq ?_
 . simp
 . simp [am.belO]
 iterate 12 kernel_rfl
abbrev Ur (a:List Tb)(k:Nat):List aa:=[.str (a.getD k Tb.zero).name,.imm ((a.getD k Tb.zero).cols.map Co.v),.imm ((a.getD k Tb.zero).key.map aa.str),.imm ((a.getD k Tb.zero).refs.map Rf.v),.int .i64 ((a.getD k Tb.zero).chk.kind),.str (a.getD k Tb.zero).chk.name,.int .i64 ((a.getD k Tb.zero).chk.n),.str (a.getD k Tb.zero).chk.s,.imm ((a.getD k Tb.zero).chk.names.map aa.str),.imm ((a.getD k Tb.zero).chk.binds.map aa.str),.imm ((a.getD k Tb.zero).chk.kids.map Ex.enc),.int .i64 ((a.getD k Tb.zero).chk.pos),.int .i64 ((a.getD k Tb.zero).chk.fin)]
abbrev Tf (b:List Tb)(k:Nat):List aa:=[.str (b.getD k Tb.zero).name,.imm ((b.getD k Tb.zero).cols.map Co.v),.imm ((b.getD k Tb.zero).key.map aa.str),.imm ((b.getD k Tb.zero).refs.map Rf.v),.int .i64 ((b.getD k Tb.zero).chk.kind),.str (b.getD k Tb.zero).chk.name,.int .i64 ((b.getD k Tb.zero).chk.n),.str (b.getD k Tb.zero).chk.s,.imm ((b.getD k Tb.zero).chk.names.map aa.str),.imm ((b.getD k Tb.zero).chk.binds.map aa.str),.imm ((b.getD k Tb.zero).chk.kids.map Ex.enc),.int .i64 ((b.getD k Tb.zero).chk.pos),.int .i64 ((b.getD k Tb.zero).chk.fin)]
theorem Rl {p:Prop} (h:p:=by first|(simp [aZ,aa.frz];first|exact (cT Tb.beq a b oq).symm|exact cT Tb.beq a b oq|exact cq Tb.beq Tb.zero Tb.zero a b oq (fun i hi=>ha i oq)|exact ef Tb.beq Tb.zero Tb.zero a b k oq oq (Bool.eq_false_iff.2 aq))):p:=h
theorem xb (a b:List Tb) (hs:∀ x∈a,x.sm) (hn:a.length<1000000000):av cx 68 [.imm (a.map Tb.v),.imm (b.map Tb.v),.fn (.func 62) [] [.ptr 0 0]] [.box jP] (fun v h=>v=(.bool (br Tb.beq a b))/\h=[.box jP]):=by
 refine fI 32 1 [(ResultVar.tmp 6)] Tryz.func68 kq ?_;refine zZ (fun _=>[(0,.imm (a.map Tb.v)),(1,.imm (b.map Tb.v)),(2,.fn (.func 62) [] [.ptr 0 0])]) (fun _=>[.box jP]) ?_ ?_;apply zW 1 id id;apply ai;apply zV 1;refine qy (aj (l:=a) (enc:=Tb.v) kq cD) ?_ ?_ ?_;apply qr 1;refine qy (aj (l:=b) (enc:=Tb.v) kq cD) ?_ ?_ ?_;apply zR 1 (mU [(14,.bool (((a.length:Nat):Int) != ((b.length:Nat):Int)))]) id;by_cases hb1:((a.length:Nat):Int)=((b.length:Nat):Int);refine qf (x:=(((a.length:Nat):Int) != ((b.length:Nat):Int))) (bne_eq_false_iff_eq.2 hb1) ?_ ?_;apply qK;apply zZ (mT [] [14]) id;apply ai;apply zV 1;refine qy (aj (l:=a) (enc:=Tb.v) kq cD) ?_ ?_ ?_;apply zR 1 (mT [(15,.imm (a.map Tb.v)),(16,nI a.length),(17,.int .i64 0)] [0]) id;apply qB 0;refine aT (σ:=Nat) (fun k=>[(1,.imm (b.map Tb.v)),(2,.fn (.func 62) [] [.ptr 0 0]),(15,.imm (a.map Tb.v)),(16,.int .i64 ((a.length:Nat):Int)),(17,.int .i64 ((k:Nat):Int))]) (fun k=>[.box jP]) (fun k=>k<=a.length/\∀ i,i<k->(a.getD i Tb.zero).beq (b.getD i Tb.zero)=true) (fun k=>a.length - k) 0 kq zq (fg kq kq aA rQ) ?_;rintro k ⟨hk,ha⟩;apply zW 1 (mU [(18,.bool (decide (((k:Nat):Int)<((a.length:Nat):Int))))]) id;apply ai;by_cases hb2:((k:Nat):Int)<((a.length:Nat):Int);apply qt (decide_eq_true hb2);apply qK;apply zZ (mT [] [18]) id;apply ai;apply qB 1;apply zV 1;refine qy ((au (k:=.i64) (l:=a) (enc:=Tb.v) (i:=((k:Nat):Int)) Tb.zero kq cD d3 (fun _=>rfl) oq oq).trans (congrArg (fun cs=>some (aa.pimm cs 0,_)) (cL (a.getD k Tb.zero)))) ?_ ?_ ?_;apply zR 4 (mU [(7,nI k),(8,.ptr 1 0)]) (mH [] [.box (Ur a k)]);apply zV 2;refine qy ((au (k:=.i64) (l:=b) (enc:=Tb.v) (i:=((k:Nat):Int)) Tb.zero kq cD d3 (fun _=>rfl) oq oq).trans (congrArg (fun cs=>some (aa.pimm cs 0,_)) (cL (b.getD k Tb.zero)))) ?_ ?_ ?_;apply zR 3 (mT [(9,.ptr 2 0)] [7]) (mH [] [.box (Tf b k)]);apply zV 3;refine qA (A1 (a.getD k Tb.zero) (b.getD k Tb.zero) (hs (a.getD k Tb.zero) (aH a Tb.zero k oq))) rQ rQ rfl rQ rQ kq ?_;apply zR 1 (mT [(30,.bool (!((a.getD k Tb.zero).beq (b.getD k Tb.zero))))] [8,9]) id;by_cases hb3:((a.getD k Tb.zero).beq (b.getD k Tb.zero))=true;refine qf (x:=(!((a.getD k Tb.zero).beq (b.getD k Tb.zero)))) (congrArg not (hb3)) ?_ ?_;refine qk ?_ ?_;refine ag ?_;apply ab;apply zZ (mT [] [30]) id;apply qo;refine qy (az (a:=((k:Nat):Int)) (b:=1) kq oq oq) ?_ ?_ ?_;apply qr 1;apply qe;refine ab ⟨k+1,?_,?_,(fg kq kq aA rQ)⟩
 . omega
 . refine ⟨by omega,fun i hi=>?_⟩;rcases Nat.lt_succ_iff_lt_or_eq.1 hi with h|h
   . exact ha i h
   . subst h;assumption
 iterate 8 kernel_rfl
 refine qt (x:=(!((a.getD k Tb.zero).beq (b.getD k Tb.zero)))) (congrArg not (Bool.eq_false_iff.2 hb3)) ?_ ?_;refine zW 1 (fun _=>[(6,.bool false)]) (fun _=>[.box jP,.box (Ur a k),.box (Tf b k)]) ?_ ?_;refine aJ kq ?_;apply iR;apply aR;apply aR;apply iR;apply aR;refine aO (l:=xM) (.inr rfl) kq Rl gK gK ?_ ?_;refine Eq.trans (b:=[.box jP]) kq ?_
 . simp
 . simp [am.belO]
 iterate 18 kernel_rfl
 apply qf (decide_eq_false hb2);refine aK 0 kq kq ?_;apply ac;apply ac;refine ao ?_;apply ab;refine zZ (fun _=>[]) id ?_ ?_;refine zW 1 (fun _=>[(6,.bool true)]) (fun _=>[.box jP]) ?_ ?_;refine aJ kq ?_;refine aO (l:=[.bool true]) (.inr rfl) kq Rl gK gK ?_ ?_;refine Eq.trans (b:=[.box jP]) kq ?_
 . simp
 . simp [am.belO]
 iterate 15 kernel_rfl
 refine qt (x:=(((a.length:Nat):Int) != ((b.length:Nat):Int))) (bne_iff_ne.2 hb1) ?_ ?_;refine zW 1 (fun _=>[(6,.bool false)]) (fun _=>[.box jP]) ?_ ?_;refine aJ kq ?_;apply aR;refine aO (l:=xM) (.inr rfl) kq Rl gK gK ?_ ?_;refine Eq.trans (b:=[.box jP]) kq ?_
 . simp
 . simp [am.belO]
 iterate 12 kernel_rfl
theorem dB {α:Type} (enc:α->aa) (r:Nat->Nat) (h:∀ x,(enc x).ren r=enc x) (l:List α):bX r (l.map enc)=l.map enc:=by
 rw [aB,List.map_map];exact List.map_congr_left fun x _=>h x
@[simp] theorem sU (r:Nat->Nat) (l:List (List UInt8)):bX r (l.map aa.str)=l.map aa.str:=dB _ r (fun _=>rfl) l
mutual
theorem Ty.ren_enc (r:Nat->Nat):∀ t:Ty,t.enc.ren r=t.enc
 | .mk k x n l ks=>by simp only [Ty.enc,aa.ren,bX,sU,Ty.ren_encL r ks]
theorem Ty.ren_encL (r:Nat->Nat):∀ l:List Ty,bX r (Ty.encL l)=Ty.encL l
 | []=>rfl
 | t::l=>by simp only [Ty.encL,bX,Ty.ren_enc r t,Ty.ren_encL r l]
end
mutual
theorem Ex.ren_enc (r:Nat->Nat):∀ t:Ex,t.enc.ren r=t.enc
 | .mk k x n s l b ks p q=>by simp only [Ex.enc,aa.ren,bX,sU,Ex.ren_encL r ks]
theorem Ex.ren_encL (r:Nat->Nat):∀ l:List Ex,bX r (Ex.encL l)=Ex.encL l
 | []=>rfl
 | t::l=>by simp only [Ex.encL,bX,Ex.ren_enc r t,Ex.ren_encL r l]
end
@[simp] theorem Mo (r:Nat->Nat) (l:List Ty):bX r (l.map Ty.enc)=l.map Ty.enc:=dB _ r (Ty.ren_enc r) l
@[simp] theorem VS (r:Nat->Nat) (l:List Ex):bX r (l.map Ex.enc)=l.map Ex.enc:=dB _ r (Ex.ren_enc r) l
@[simp] theorem VV (r:Nat->Nat) (l:List Ct):bX r (l.map Ct.v)=l.map Ct.v:=dB _ r (fun x=>by simp [Ct.v,aa.ren,bX]) l
@[simp] theorem VU (r:Nat->Nat) (l:List Co):bX r (l.map Co.v)=l.map Co.v:=dB _ r (fun x=>by simp [Co.v,aa.ren,bX]) l
@[simp] theorem VQ (r:Nat->Nat) (l:List Rf):bX r (l.map Rf.v)=l.map Rf.v:=dB _ r (fun x=>by simp [Rf.v,aa.ren,bX]) l
@[simp] theorem RX (r:Nat->Nat) (l:List Sm):bX r (l.map Sm.v)=l.map Sm.v:=dB _ r (fun x=>by simp [Sm.v,aa.ren,bX]) l
@[simp] theorem RY (r:Nat->Nat) (l:List Tb):bX r (l.map Tb.v)=l.map Tb.v:=dB _ r (fun x=>by simp [Tb.v,aa.ren,bX]) l
abbrev VJ (a:Sc):List aa:=[.imm (a.sums.map Sm.v),.imm (a.tabs.map Tb.v)]
abbrev T6 (b:Sc):List aa:=[.imm (b.sums.map Sm.v),.imm (b.tabs.map Tb.v)]
abbrev JN (a:Sc)(b:Sc):List am:=[.box (VJ a),.box (T6 b),.box kP,.box jP]
theorem xE (a b:Sc) (hs:a.sm):ae cx 22 [Sc.v a,Sc.v b] (.bool (a.beq b)):=by
 refine fI 25 0 [(ResultVar.tmp 4)] Tryz.func22 kq ?_;refine zZ (fun _=>[(0,Sc.v a),(1,Sc.v b)]) (fun _=>[]) ?_ ?_;apply zW 3 (mT [(2,.ptr 0 0),(3,.ptr 1 0)] [0,1]) (mH [] [.box (VJ a),.box (T6 b)]);apply zW 2 (mU [(5,.ptr 2 0)]) (mH [] [.box kP]);apply zW 2 (mT [(6,.fn (.func 59) [] [.ptr 2 0])] [5]) id;apply zW 2 (mU [(7,.ptr 3 0)]) (mH [] [.box jP]);refine zW 2 (fun _=>[(2,.ptr 0 0),(3,.ptr 1 0),(6,.fn (.func 59) [] [.ptr 2 0]),(8,.fn (.func 62) [] [.ptr 3 0])]) (fun _=>(JN a b)) ?_ ?_;apply zV 5;refine lH (args:=[.imm (a.sums.map Sm.v),.imm (b.sums.map Sm.v),.fn (.func 59) [] [.ptr 2 0]]) (v:=.bool (br Sm.beq a.sums b.sums)) (h':=(JN a b)) (JN a b) kq kq kq kq kq (iK [2] (ya a.sums b.sums hs.2.1 hs.1) rfl dq (by simp [aC,aa.bel]) (by simp [am.belO,aC,aa.bel]) (by simp [gL,am.ren,cb,bX,aa.ren]) rfl (by simp [bX,aa.ren,cb]) (by simp [aa.ren]) (by simp [eY,dG,gL,am.ren,bX,aa.ren,cb])) ?_;apply qr 1;by_cases hb1:(br Sm.beq a.sums b.sums)=true;refine zm [16,17] (hb1) ?_ ?_;apply qr 5;refine lH (args:=[.imm (a.tabs.map Tb.v),.imm (b.tabs.map Tb.v),.fn (.func 62) [] [.ptr 3 0]]) (v:=.bool (br Tb.beq a.tabs b.tabs)) (h':=(JN a b)) (JN a b) kq kq kq kq kq (iK [3] (xb a.tabs b.tabs hs.2.2.2 hs.2.2.1) rfl dq (by simp [aC,aa.bel]) (by simp [am.belO,aC,aa.bel]) (by simp [gL,am.ren,cb,bX,aa.ren]) rfl (by simp [bX,aa.ren,cb]) (by simp [aa.ren]) (by simp [eY,dG,gL,am.ren,bX,aa.ren,cb])) ?_;refine qX 2 ?_ ?_;refine aD (b:=(br Tb.beq a.tabs b.tabs)) (.inr rfl) kq ?_
 . simp [Sc.beq, *]
 iterate 3 kernel_rfl
 refine zm [16,17] (Bool.eq_false_iff.2 hb1) ?_ ?_;refine qX 8 ?_ ?_;refine aD (b:=false) (.inr rfl) kq ?_
 . simp [Sc.beq, *]
 iterate 10 kernel_rfl
end Go.Proofs.YtcpklndelobigaaGreatDoor
