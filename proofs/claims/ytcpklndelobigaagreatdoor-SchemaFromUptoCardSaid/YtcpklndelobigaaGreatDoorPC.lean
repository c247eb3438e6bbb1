/- closed of both packages: no variables. Conditions: the parts are formed; sizes that can be had. -/
import Derived.Test.YtcpklndelobigaaGreatDoorPB
import Derived.Test.YtcpklndelobigaaGreatDoorM4
set_option linter.all false
namespace Go.Proofs.YtcpklndelobigaaGreatDoor
open Go.Proofs.YtcpklndelobigaaGreatDoor.Abs
set_option maxRecDepth 20000
set_option maxHeartbeats 4000000
mutual
def clB:Ty->Bool
 | .mk k x n l ks=>!(decide (k=6) || (decide (k=5) && !decide (n=0))) && C4 ks
def C4:List Ty->Bool
 | []=>true
 | t::l=>clB t && C4 l
end
theorem wH:∀ l,C4 l=l.all clB
 | []=>rfl
 | t::l=>by rw [C4,wH l,List.all_cons]
theorem vY (t:Ty):clB t=(!(decide (t.kind=6) || (decide (t.kind=5) && !decide (t.n=0))) && !t.kids.any (fun x=>!clB x)):=by
 cases t;rw [clB,wH,List.all_eq_not_any_not];rfl
mutual
theorem BX:∀ t:Ty,(aW t).isEmpty=clB t
 | .mk k x n l ks=>by
  have ih:=yy ks;simp only [aW,clB,<- ih];by_cases h6:k=6
  . simp [h6]
  . by_cases h5:k=5/\n≠0
    . simp [h6,h5]
    . rw [if_neg h6,if_neg h5]
      have:(decide (k=5) && !decide (n=0))=false:=by
       rw [Bool.eq_false_iff];intro hc;simp at hc;exact h5 hc
      simp [h6,this]
theorem yy:∀ l:List Ty,(ca l).isEmpty=C4 l
 | []=>rfl
 | t::l=>by
  have h1:=BX t;have h2:=yy l;simp only [ca,C4,<- h1,<- h2];cases aW t <;> simp
end
noncomputable def RY:Code:=aF Tryz.f241
theorem CA (l:List Ty) (f:Nat) (p:Ty->Bool) (hc:∀ i,i<l.length->af cx f [(l.getD i Ty.zero).v] (.bool (p (l.getD i Ty.zero)))) (hn:l.length<1000000000):af cx 241 [.imm (l.map Ty.enc),.fn (.func f) [] []] (.int .i64 (ce p l)):=by
 refine am (cx:=cx) 19 0 [(ResultVar.tmp 4)] Tryz.func241 rfl rfl rfl rfl rfl zq ?_;show wpA cx 19 0 (at_ RY []) _ _ _;refine zZ (fun _=>[(0,.imm (l.map Ty.enc)),(1,.fn (.func f) [] [])]) (fun _=>[]) ?_ ?_;apply zW 1 id id;apply ao;apply zV 1;refine qy (aw (l:=l) (enc:=Ty.enc) kq dC) ?_ ?_ ?_;apply zR 1 (mU [(7,nI l.length),(8,.int .i64 0)]) id;apply qB 0;refine aU (σ:=Nat) (fun k=>[(0,.imm (l.map Ty.enc)),(1,.fn (.func f) [] []),(7,.int .i64 ((l.length:Nat):Int)),(8,.int .i64 ((k:Nat):Int))]) (fun k=>[]) (fun k=>k<=l.length/\∀ i,i<k->¬ p (l.getD i Ty.zero)=true) (fun k=>l.length - k) 0 kq zq (fg kq kq az kJ) ?_;rintro k ⟨hk,ha⟩;apply zW 1 (mU [(9,.bool (decide (((k:Nat):Int)<((l.length:Nat):Int))))]) id;apply ao;by_cases hb1:((k:Nat):Int)<((l.length:Nat):Int);apply qt (decide_eq_true hb1);apply qK;apply zZ (mT [] [9]) id;apply ao;apply qB 1;apply zW 2 (mU [(5,nI k)]) id;apply zV 3;refine qy ((av (k:=.i64) (l:=l) (enc:=Ty.enc) (i:=((k:Nat):Int)) Ty.zero kq dC gF dN oq oq).trans (congrArg (fun cs=>some (aa.pimm cs 0,_)) (db (l.getD k Ty.zero)))) ?_ ?_ ?_;apply qr 1;refine qP (hc k oq) jF aH jD kq ?_;refine zN (fun _=>[(0,.imm (l.map Ty.enc)),(1,.fn (.func f) [] []),(5,nI k),(7,nI l.length),(8,nI k),(16,.bool (p (l.getD k Ty.zero)))]) (fun _=>[]) ?_ ?_;by_cases hb2:(p (l.getD k Ty.zero))=true;apply qt (hb2);apply zV 2;apply qT;apply iR;apply aR;apply aR;apply iR;apply aR;refine fe (n:=((k:Nat):Int)) (.inr rfl) kq ?_
 rotate_left
 iterate 3 kernel_rfl
 apply qf (Bool.eq_false_iff.2 hb2);apply qk;apply ag;apply ab;apply zZ (mT [] [5,16]) id;apply qo;refine qy (aA (a:=((k:Nat):Int)) (b:=1) kq oq oq) ?_ ?_ ?_;apply qr 1;apply qe;refine ab ⟨k+1,?_,?_,(fg kq kq az kJ)⟩
 . omega
 . refine ⟨by omega,fun i hi=>?_⟩;rcases Nat.lt_succ_iff_lt_or_eq.1 hi with h|h
   . exact ha i h
   . subst h;assumption
 iterate 20 kernel_rfl
 apply qf (decide_eq_false hb1);refine aK 0 kq kq ?_;apply ac;apply ac;apply au;apply ab;refine zZ (fun _=>[]) (fun _=>[]) ?_ ?_;apply zV 1;apply qT;refine fe (n:=(-1)) (.inr rfl) kq ?_
 rotate_left
 iterate 15 kernel_rfl
 all_goals
  first|exact eW (p:=p) Ty.zero (l:=l) (k:=k) oq ha aq|exact e7 (p:=p) Ty.zero (l:=l) (fun i hi=>ha i oq)
noncomputable def QO:Code:=aF Tryz.f197
theorem ue (l:List Ty) (f:Nat) (p:Ty->Bool) (hc:∀ i,i<l.length->af cx f [(l.getD i Ty.zero).v] (.bool (p (l.getD i Ty.zero)))) (hn:l.length<1000000000):af cx 197 [.imm (l.map Ty.enc),.fn (.func f) [] []] (.bool (l.any p)):=by
 refine am (cx:=cx) 9 0 [(ResultVar.tmp 4)] Tryz.func197 rfl rfl rfl rfl rfl zq ?_;show wpA cx 9 0 (at_ QO []) _ _ _;refine zZ (fun _=>[(0,.imm (l.map Ty.enc)),(1,.fn (.func f) [] [])]) (fun _=>[]) ?_ ?_;refine zW 1 (fun _=>[(0,.imm (l.map Ty.enc)),(1,.fn (.func f) [] [])]) (fun _=>[]) ?_ ?_;apply zV 2;refine qP (CA l f p (hc) oq) jF aH jD kq ?_;apply qX 2;refine aJ (b:=(decide ((ce p l) >= 0))) (.inr rfl) kq ?_
 . exact nL p l
 iterate 4 kernel_rfl
noncomputable def Qg:Code:=aF Tryz.f198
theorem uQ (x:Ty) (h:af cx 147 [x.v] (.bool (clB x))):af cx 198 [Ty.v x] (.bool (!clB x)):=by
 refine am (cx:=cx) 6 0 [(ResultVar.tmp 2)] Tryz.func198 rfl rfl rfl rfl rfl zq ?_;show wpA cx 6 0 (at_ Qg []) _ _ _;refine zZ (fun _=>[(0,Ty.v x)]) (fun _=>[]) ?_ ?_;refine zW 2 (fun _=>[(1,.ptr 0 0)]) (fun _=>[x.bx]) ?_ ?_;apply zV 1;refine qP (h) jF aH jD kq ?_;apply qX 2;refine aJ (b:=(!(clB x))) (.inr rfl) kq ?_
 . rfl
 iterate 4 kernel_rfl
noncomputable def RU:Code:=aF Tryz.f147
theorem vW (t:Ty) (hs:t.sz<100000000) (hp:Vp t):af cx 147 [Ty.v t] (.bool (clB t)):=by
 induction hN:t.sz using Nat.strongRecOn generalizing t with|_ N ih =>
 have ihC:∀ x:Ty,x.sz<t.sz->Vp x->af cx 147 [x.v] (.bool (clB x)):=fun x h1 h2=>ih _ (by rw [<- hN];exact h1) x (Nat.lt_trans h1 hs) h2 rfl
 have hz2:=iT t;have hc:∀ i,i<t.kids.length->af cx 198 [(t.kids.getD i Ty.zero).v] (.bool (!clB (t.kids.getD i Ty.zero))):=fun i hi=>uQ _ (ihC _ (fv t i hi) (uN (G7 hp) hi))
 refine am (cx:=cx) 29 0 [(ResultVar.tmp 2)] Tryz.func147 rfl rfl rfl rfl rfl zq ?_;show wpA cx 29 0 (at_ RU []) _ _ _;refine zZ (fun _=>[(0,Ty.v t)]) (fun _=>[]) ?_ ?_;apply zW 2 (mT [(1,.ptr 0 0)] [0]) (mH [] [t.bx]);apply zV 4;by_cases hb1:(t.kind)=6;apply zm [6,7] (beq_iff_eq.2 hb1);refine zR 10 (fun _=>[(1,.ptr 0 0),(3,.bool true)]) (fun _=>[t.bx]) ?_ ?_;apply zV 1;refine qP (li t hs hp) jF aH jD kq ?_;apply qX 11;refine aJ (b:=false) (.inr rfl) kq ?_
 . rw [vY];simp [*]
 iterate 4 kernel_rfl
 apply zm [6,7] (beq_eq_false_iff_ne.2 hb1);apply qr 4;by_cases hb2:(t.kind)=5;apply zm [10,11] (beq_iff_eq.2 hb2);refine zR 6 (fun _=>[(1,.ptr 0 0),(3,.bool ((t.n) != 0))]) (fun _=>[t.bx]) ?_ ?_;apply zV 1;refine qP (li t hs hp) jF aH jD kq ?_;apply qr 5;by_cases hb3:(t.n)=0;refine zm [21,22,23] (x:=(!((t.n) != 0))) (congrArg not (bne_eq_false_iff_eq.2 hb3)) ?_ ?_;apply qr 2;refine qP (ue t.kids 198 (fun x=>!clB x) hc oq) jF aH jD kq ?_;apply qX 3;refine aJ (b:=(!(t.kids.any (fun x=>!clB x)))) (.inr rfl) kq ?_
 . rw [vY];simp [*]
 iterate 3 kernel_rfl
 refine zm [21,22,23] (x:=(!((t.n) != 0))) (congrArg not (bne_iff_ne.2 hb3)) ?_ ?_;apply qX 6;refine aJ (b:=false) (.inr rfl) kq ?_
 . rw [vY];simp [*]
 iterate 6 kernel_rfl
 apply zm [10,11] (beq_eq_false_iff_ne.2 hb2);refine zR 6 (fun _=>[(1,.ptr 0 0),(3,.bool false)]) (fun _=>[t.bx]) ?_ ?_;apply zV 1;refine qP (li t hs hp) jF aH jD kq ?_;apply qr 7;refine qP (ue t.kids 198 (fun x=>!clB x) hc oq) jF aH jD kq ?_;apply qX 3;refine aJ (b:=(!(t.kids.any (fun x=>!clB x)))) (.inr rfl) kq ?_
 . rw [vY];simp [*]
 iterate 10 kernel_rfl
noncomputable def Qu:Code:=aF Tryz.f222
theorem I3 {p:Prop} (h:p:=by first|(rw [Fg oq,Q5 aq];done)|(rw [Fg oq,QP aq];done)):p:=h
theorem OP {p:Prop} (h:p:=by first|(simp;done)|(simp only [List.length_append,List.length_map,List.length_cons,List.length_nil];omega)):p:=h
theorem C1 (t:Ty) (hs:t.sz<100000000):af cx 222 [Ty.v t] (.imm ((nmO (aW t) (aW t).length).map (aa.int .i64))):=by
 have hz4:=kQ t;refine am (cx:=cx) 33 0 [(ResultVar.tmp 2)] Tryz.func222 rfl rfl rfl rfl rfl zq ?_;show wpA cx 33 0 (at_ Qu []) _ _ _;refine zZ (fun _=>[(0,Ty.v t)]) (fun _=>[]) ?_ ?_;apply zW 2 (mT [(1,.ptr 0 0)] [0]) (mH [] [t.bx]);apply zV 1;refine qP (t7 t ar) jF aH jD kq ?_;apply zR 1 (mT [(3,.imm ((aW t).map Occ.v))] [1]) id;apply zW 1 (mU [(4,.full [])]) id;refine jZ 4 1 dq kq ?_;refine zL 1 (mO [(1,.arr 1 (([]:List (Int)).map (aa.int .i64)) (([]:List (Int)).map (aa.int .i64)).length)]) kq ?_;apply zZ (mK 1 [] []) id;apply ao;apply zW 1 (mU [(5,.int .i64 0)]) id;apply qB 0;refine aU (σ:=Nat) (fun k=>[(3,.imm ((aW t).map Occ.v)),(4,.own 1 0 (nmO (aW t) k).length),(5,.int .i64 ((k:Nat):Int))]) (fun k=>[t.bx,.arr 1 ((nmO (aW t) k).map (aa.int .i64)) ((nmO (aW t) k).map (aa.int .i64)).length]) (fun k=>k<=(aW t).length) (fun k=>(aW t).length - k) 0 kq (by exact Nat.zero_le _) (fg kq kq az Ad) ?_;rintro k hk;have hnl:=v7 (aW t) k;apply ao;apply zV 2;refine qy (aw (l:=(aW t)) (enc:=Occ.v) kq eV) ?_ ?_ ?_;apply zR 1 (mU [(12,.bool (decide (((k:Nat):Int)<(((aW t).length:Nat):Int))))]) id;by_cases hb1:((k:Nat):Int)<(((aW t).length:Nat):Int);apply qt (decide_eq_true hb1);apply qK;refine zZ (fun _=>[(3,.imm ((aW t).map Occ.v)),(4,.own 1 0 (nmO (aW t) k).length),(5,nI k)]) (fun _=>[t.bx,.arr 1 ((nmO (aW t) k).map (aa.int .i64)) ((nmO (aW t) k).map (aa.int .i64)).length]) ?_ ?_;apply ao;apply qB 1;apply zV 3;refine qy (av (k:=.i64) (l:=(aW t)) (enc:=Occ.v) (i:=((k:Nat):Int)) Occ.zero kq eV jc (fun _=>rfl) ar ar) ?_ ?_ ?_;apply qr 2;refine vZ (args:=[.own 1 0 (nmO (aW t) k).length,.int .i64 (((aW t).getD k Occ.zero).n)]) (F:=[t.bx,.arr 1 ((nmO (aW t) k).map (aa.int .i64)) ((nmO (aW t) k).map (aa.int .i64)).length]) kq kq kq kq (CW (nmO (aW t) k) (((aW t).getD k Occ.zero).n) ar) [t.bx,.arr 1 ((nmO (aW t) k).map (aa.int .i64)) ((nmO (aW t) k).map (aa.int .i64)).length] kq (by simp [aQ,cG,aG,aa.frz,aa.owns]) aH (by simp [aQ,cG,aG,aa.frz,aa.owns]) ?_;apply zR 1 (mU [(6,.bool ((nmO (aW t) k).contains (((aW t).getD k Occ.zero).n)))]) id;apply zW 2 (mT [(23,.bool (!((nmO (aW t) k).contains (((aW t).getD k Occ.zero).n))))] [6]) id;by_cases hb2:((nmO (aW t) k).contains (((aW t).getD k Occ.zero).n))=true;refine qf (x:=(!((nmO (aW t) k).contains (((aW t).getD k Occ.zero).n)))) (congrArg not (hb2)) ?_ ?_;apply qk;apply ag;apply ab;apply zZ (mT [] [23]) id;refine zL 1 id kq ?_;apply zZ id id;apply qo;apply qr 1;refine qy (aA (a:=((k:Nat):Int)) (b:=1) kq ar ar) ?_ ?_ ?_;apply qr 1;apply qe;refine ab ⟨k+1,?_,?_,⟨⟨kq,(hT I3 kq),kq,trivial⟩,az,by simp,(hT I3 kq),Ad⟩⟩
 . omega
 . omega
 iterate 10 kernel_rfl
 refine qt (x:=(!((nmO (aW t) k).contains (((aW t).getD k Occ.zero).n)))) (congrArg not (Bool.eq_false_iff.2 hb2)) ?_ ?_;apply qo;apply qr 3;refine qy (av (k:=.i64) (l:=(aW t)) (enc:=Occ.v) (i:=((k:Nat):Int)) Occ.zero kq eV jc (fun _=>rfl) ar ar) ?_ ?_ ?_;apply qr 3;refine qY (aP (o:=1) (len:=((nmO (aW t) k).length)) (l:=(nmO (aW t) k)) (xs:=[(((aW t).getD k Occ.zero).n)]) (enc:=(aa.int .i64)) (sz:=1) (fr:=((nmO (aW t) k).map (aa.int .i64)).length) (x:=(.full [.int .i64 (((aW t).getD k Occ.zero).n)])) kq yJ ty3 yJ rfl kq rfl iM kq ⟨by decide,ep⟩ (fun _=>rfl) OP OP) ?_ ?_ ?_;apply qr 1;apply qe;apply ag;apply ab;refine zZ (fun _=>[(3,.imm ((aW t).map Occ.v)),(4,.own 1 0 ((nmO (aW t) k)++[(((aW t).getD k Occ.zero).n)]).length),(5,nI k)]) (fun _=>[t.bx,.arr 1 (((nmO (aW t) k)++[(((aW t).getD k Occ.zero).n)]).map (aa.int .i64)) ((nmO (aW t) k).map (aa.int .i64)).length]) ?_ ?_;refine zL 1 (mO [(1,.arr 1 (((nmO (aW t) k)++[(((aW t).getD k Occ.zero).n)]).map (aa.int .i64)) (((nmO (aW t) k)++[(((aW t).getD k Occ.zero).n)]).map (aa.int .i64)).length)]) kq ?_;apply zZ id id;apply qo;apply qr 1;refine qy (aA (a:=((k:Nat):Int)) (b:=1) kq ar ar) ?_ ?_ ?_;apply qr 1;apply qe;refine ab ⟨k+1,?_,?_,⟨⟨kq,(hT I3 kq),kq,trivial⟩,az,by simp,(hT I3 kq),Ad⟩⟩
 . omega
 . omega
 iterate 30 kernel_rfl
 apply qf (decide_eq_false hb1);refine aK 0 kq kq ?_;apply ac;apply ac;apply au;apply ab;apply zZ (mT [] [3,5,12]) id;refine zW 2 (fun _=>[(2,.own 1 0 (nmO (aW t) k).length)]) (fun _=>[t.bx,.arr 1 ((nmO (aW t) k).map (aa.int .i64)) ((nmO (aW t) k).map (aa.int .i64)).length]) ?_ ?_;refine bq kq ?_;refine cq (l:=[.own 1 0 (nmO (aW t) k).length]) (.inr rfl) kq ?_
 . have e_:k=(aW t).length:=by omega
   subst e_;simp [bg,aa.frz,aQ]
 iterate 18 kernel_rfl
noncomputable def P9:Code:=aF Tryz.f166
theorem gG (t:Ty) (hs:t.sz<100000000) (hp:Vp t):af cx 166 [Ty.v t] (.bool (clB t)):=by
 refine am (cx:=cx) 13 0 [(ResultVar.tmp 2)] Tryz.func166 rfl rfl rfl rfl rfl zq ?_;show wpA cx 13 0 (at_ P9 []) _ _ _;refine zZ (fun _=>[(0,Ty.v t)]) (fun _=>[]) ?_ ?_;apply zW 2 (mT [(1,.ptr 0 0)] [0]) (mH [] [t.bx]);apply zV 1;refine qP (yD t hs hp) jF aH jD kq ?_;refine zR 1 (fun _=>[(1,.ptr 0 0),(3,.bool true)]) (fun _=>[t.bx]) ?_ ?_;apply zV 3;refine qP (C1 t hs) jF aH jD kq ?_;refine qy (aw (l:=(nmO (aW t) (aW t).length)) (enc:=(aa.int .i64)) kq yJ) ?_ ?_ ?_;apply qX 3;refine aJ (b:=((((nmO (aW t) (aW t).length).length:Nat):Int)==0)) (.inr rfl) kq ?_;by_cases hb1:(((nmO (aW t) (aW t).length).length:Nat):Int)=0;refine Eq.trans (beq_iff_eq.2 hb1) ?_
 rotate_left
 refine Eq.trans (beq_eq_false_iff_ne.2 hb1) ?_
 rotate_left
 iterate 8 kernel_rfl
 all_goals
  rw [<- BX,<- O9];first|exact (decide_eq_true aq).symm|exact (decide_eq_false aq).symm|(simp [*];done)
end Go.Proofs.YtcpklndelobigaaGreatDoor
