/- Open of the reference. No condition. -/
import Derived.Test.YtcpklndelobigaaGreatDoorCG
import Derived.Test.YtcpklndelobigaaGreatDoorM2
set_option linter.all false
namespace Go.Proofs.YtcpklndelobigaaGreatDoor
open Go.Proofs.YtcpklndelobigaaGreatDoor.Abs
set_option maxRecDepth 20000
set_option maxHeartbeats 4000000
theorem H1 (l:List (List UInt8)) (s:List UInt8):-1<=bQ l s/\bQ l s<(l.length:Nat)\/l=[]/\bQ l s=-1:=by
 unfold bQ;split
 . rename_i i hi;obtain ⟨h1,_⟩:=List.findIdx?_eq_some_iff_getElem.1 hi;left;omega
 . cases l with
   | nil=>right;exact ⟨rfl,rfl⟩
   | cons=>left;simp;omega
noncomputable def RX:Code:=aF Tryz.f100
theorem xS (l:List (List UInt8)) (s:List UInt8) (hn:l.length<1000000000):af cx 100 [.imm (l.map aa.str),.str s] (.int .i64 (bQ l s)):=by
 refine am (cx:=cx) 19 0 [(ResultVar.tmp 4)] Tryz.func100 rfl rfl rfl rfl rfl zq ?_;show wpA cx 19 0 (at_ RX []) _ _ _;refine zZ (fun _=>[(0,.imm (l.map aa.str)),(1,.str s)]) (fun _=>[]) ?_ ?_;apply zW 1 id id;apply ao;apply zW 1 (mU [(5,.int .i64 0)]) id;apply qB 0;refine aU (σ:=Nat) (fun k=>[(0,.imm (l.map aa.str)),(1,.str s),(5,nI k)]) (fun k=>[]) (fun k=>k<=l.length/\∀ i,i<k->¬ s=l.getD i []) (fun k=>l.length - k) 0 kq zq (fg kq kq az zq) ?_;rintro k ⟨hk,ha⟩;apply ao;apply zV 2;refine qy (aw (l:=l) (enc:=aa.str) kq bf) ?_ ?_ ?_;apply zR 1 (mU [(9,.bool (decide (((k:Nat):Int)<((l.length:Nat):Int))))]) id;by_cases hb1:((k:Nat):Int)<((l.length:Nat):Int);apply qt (decide_eq_true hb1);apply qK;apply zZ (mT [] [9]) id;apply ao;apply qB 1;apply zV 2;refine qy (av (k:=.i64) (l:=l) (enc:=aa.str) (i:=((k:Nat):Int)) [] kq bf ty9 (fun _=>rfl) oq oq) ?_ ?_ ?_;refine zR 3 (fun _=>[(0,.imm (l.map aa.str)),(1,.str s),(5,nI k),(17,.bool ((l.getD k [])==s))]) (fun _=>[]) ?_ ?_;by_cases hb2:(l.getD k [])=s;apply qt (beq_iff_eq.2 hb2);apply zV 2;apply qT;apply iR;apply aR;apply aR;apply iR;apply aR;refine fe (n:=((k:Nat):Int)) (.inr rfl) kq ?_
 rotate_left
 iterate 3 kernel_rfl
 apply qf (beq_eq_false_iff_ne.2 hb2);apply qk;apply ag;apply ab;apply zZ (mT [] [17]) id;apply qo;apply qr 1;refine qy (aA (a:=((k:Nat):Int)) (b:=1) kq oq oq) ?_ ?_ ?_;apply qr 1;apply qe;refine ab ⟨k+1,?_,?_,(fg kq kq az zq)⟩
 . omega
 . refine ⟨by omega,fun i hi=>?_⟩;rcases Nat.lt_succ_iff_lt_or_eq.1 hi with h|h
   . exact ha i h
   . subst h;intro hc;exact absurd hc.symm aq
 iterate 19 kernel_rfl
 apply qf (decide_eq_false hb1);refine aK 0 kq kq ?_;apply ac;apply ac;apply au;apply ab;refine zZ (fun _=>[]) (fun _=>[]) ?_ ?_;apply zV 1;apply qT;refine fe (n:=(-1)) (.inr rfl) kq ?_
 rotate_left
 iterate 15 kernel_rfl
 all_goals
  first|exact oS oq ha (Eq.symm aq)|exact oC (fun i hi=>ha i oq)
@[simp] theorem Ty.kind_mk (k:Int) (x:List UInt8) (n:Int) (l:List (List UInt8)) (ks:List Ty):(Ty.mk k x n l ks).kind=k:=rfl
@[simp] theorem Ty.name_mk (k:Int) (x:List UInt8) (n:Int) (l:List (List UInt8)) (ks:List Ty):(Ty.mk k x n l ks).name=x:=rfl
@[simp] theorem Ty.n_mk (k:Int) (x:List UInt8) (n:Int) (l:List (List UInt8)) (ks:List Ty):(Ty.mk k x n l ks).n=n:=rfl
@[simp] theorem Ty.names_mk (k:Int) (x:List UInt8) (n:Int) (l:List (List UInt8)) (ks:List Ty):(Ty.mk k x n l ks).names=l:=rfl
@[simp] theorem Ty.kids_mk (k:Int) (x:List UInt8) (n:Int) (l:List (List UInt8)) (ks:List Ty):(Ty.mk k x n l ks).kids=ks:=rfl
theorem Ei {t x:Ty} {h:ae} (h4:t.kind=4):(bg [.agg [.int .i64 t.kind,.str t.name,.int .i64 t.n,.imm (t.names.map aa.str),.full [x.v]]]).frz h=(Ty.mk 4 t.name t.n t.names [x]).v/\(Ty.mk 4 t.name t.n t.names [x]).v.bel 0=true:=by
 refine ⟨?_,by simp⟩;rw [h4];have e:(Ty.mk 4 t.name t.n t.names [x]).v=.agg [.int .i64 4,.str t.name,.int .i64 t.n,.imm (t.names.map .str),.imm [x.enc]]:=rfl;rw [e,Ty.enc_v];simp only [bg,aa.frz,aQ,oo,HU]
theorem LF (t:Ty):t.enc.cells.length=5/\t.enc.cells.all aa.cellOk=true:=by rw [db];exact ⟨rfl,rfl⟩
theorem HL (p q:Ty):p.enc.withCells q.enc.cells=some q.enc:=by rw [Ty.enc_v,Ty.enc_v];rfl
theorem EE {l:List Int} {q:Nat} {d:Int} (hl:ji l) (hq:(q:Int)+100 * d<=1000000) (hd:0<=d/\d<=2):aE cx 99 [.imm (l.map (.int .i64)),.int .i64 (q:Nat),.int .i64 d] [] (fun v h=>((ai l d.toNat q).kind=5/\v=yZ (ai l d.toNat q)/\h=yY (ai l d.toNat q))\/(¬ (ai l d.toNat q).kind=5/\v=(ai l d.toNat q).v/\h=[])):=by
 refine ph (zX l q d hl hq hd) ?_;rintro v h (h1|h1)
 . exact .inl (.inl h1)
 . exact .inr ⟨by rw [h1.2];simp,.inr ⟨h1.1,h1.2,rfl⟩⟩
theorem AP (kid:Nat->Ty):∀ f i w o,o.names.length=o.kids.length->(mq kid f i w o).names.length=(mq kid f i w o).kids.length
 | 0,i,w,o,h=>h
 | f+1,i,w,o,h=>by
  simp only [mq];refine AP kid f _ _ _ ?_;split
  . exact vl _ _ _ h
  . exact h
theorem Aa (l:List Int) (d q:Nat) (h:(ai l d q).kind=5):(ai l d q).names.length=(ai l d q).kids.length:=by
 have hb:∀ k,(gu k).names.length=(gu k).kids.length:=by
  intro k;unfold gu;split
  . rfl
  . split <;> rfl
 cases d with
 | zero=>exact hb _
 | succ d =>
  unfold ai at h ⊢;split
  . exact hb _
  . split
    . rename_i h1 h2;rw [if_neg h1,if_pos h2] at h;simp [Ty.kind] at h
    . exact AP _ _ _ _ _ rfl
def opF (names:List (List UInt8)) (kid:Nat->Ty):Nat->Nat->Int->List Ty->Int×List Ty
 | 0,_,m,ks=>(m,ks)
 | f+1,i,m,ks=>if bQ names (nms.getD i []) >= 0 then opF names kid f (i+1) (2 * m+1) (ks.set (bQ names (nms.getD i [])).toNat (kid i)) else opF names kid f (i+1) (2 * m) ks
def bA (l:List Int):Nat->Nat->Ty
 | 0,q=>if ah l (q+7) 5=0 then .mk 6 [] (1+ah l (q+8) 2) [] [] else ai l 0 q
 | d+1,q=>if ah l (q+7) 5=0 then .mk 6 [] (1+ah l (q+8) 2) [] []
  else if (ai l (d+1) q).kind=4 then .mk 4 (ai l (d+1) q).name (ai l (d+1) q).n (ai l (d+1) q).names [bA l d (q+1)]
  else if (ai l (d+1) q).kind=5 then
   .mk 5 (ai l (d+1) q).name (if ah l (q+7) 5<3 then 11+(opF (ai l (d+1) q).names (fun i=>bA l d (q+3+i)) 4 0 0 (ai l (d+1) q).kids).1 else (ai l (d+1) q).n) (ai l (d+1) q).names
    (opF (ai l (d+1) q).names (fun i=>bA l d (q+3+i)) 4 0 0 (ai l (d+1) q).kids).2
  else ai l (d+1) q
theorem LL (i:Nat) (h:i<=4):(2:Int) ^ i<=16:=by
 match i,h with
 | 0,_=>decide
 | 1,_=>decide
 | 2,_=>decide
 | 3,_=>decide
 | 4,_=>decide
theorem JQ {names:List (List UInt8)} {kid:Nat->Ty} {i:Nat} {m:Int} {ks:List Ty} (h:i<4) (hx:bQ names (nms.getD i []) >= 0):opF names kid (4 - i) i m ks=opF names kid (4 - (i+1)) (i+1) (2 * m+1) (ks.set (bQ names (nms.getD i [])).toNat (kid i)):=by
 rw [show 4 - i=(4 - (i+1))+1 by omega,opF,if_pos hx]
theorem Kz {names:List (List UInt8)} {kid:Nat->Ty} {i:Nat} {m:Int} {ks:List Ty} (h:i<4) (hx:¬ bQ names (nms.getD i []) >= 0):opF names kid (4 - i) i m ks=opF names kid (4 - (i+1)) (i+1) (2 * m) ks:=by
 rw [show 4 - i=(4 - (i+1))+1 by omega,opF,if_neg hx]
theorem IE {l:List Int} {q:Nat} {d:Int} (hk:ah l (q+7) 5=0):bA l d.toNat q=.mk 6 [] (1+ah l (q+8) 2) [] []:=by
 cases d.toNat <;> rw [bA,if_pos hk]
theorem HF {l:List Int} {q:Nat} {d:Int} (hk:¬ ah l (q+7) 5=0) (hd:¬ d > 0\/(¬ (ai l d.toNat q).kind=4/\¬ (ai l d.toNat q).kind=5)):bA l d.toNat q=ai l d.toNat q:=by
 by_cases h0:d > 0
 . rcases hd with h|⟨h4,h5⟩
   . exact absurd h0 h
   . rw [lE h0] at h4 h5 ⊢;rw [bA,if_neg hk,if_neg h4,if_neg h5]
 . have:d.toNat=0:=by omega
   rw [this,bA,if_neg hk]
theorem HG {l:List Int} {q:Nat} {d:Int} (hk:¬ ah l (q+7) 5=0) (h0:d > 0) (h4:(ai l d.toNat q).kind=4):bA l d.toNat q=.mk 4 (ai l d.toNat q).name (ai l d.toNat q).n (ai l d.toNat q).names [bA l (d - 1).toNat (q+1)]:=by
 rw [lE h0] at h4 ⊢;rw [bA,if_neg hk,if_pos h4]
theorem Je {l:List Int} {q:Nat} {d:Int} (hk:¬ ah l (q+7) 5=0) (h0:d > 0) (h5:(ai l d.toNat q).kind=5):bA l d.toNat q=.mk 5 (ai l d.toNat q).name (if ah l (q+7) 5<3 then 11+(opF (ai l d.toNat q).names (fun i=>bA l (d - 1).toNat (q+3+i)) 4 0 0 (ai l d.toNat q).kids).1 else (ai l d.toNat q).n) (ai l d.toNat q).names (opF (ai l d.toNat q).names (fun i=>bA l (d - 1).toNat (q+3+i)) 4 0 0 (ai l d.toNat q).kids).2:=by
 rw [lE h0] at h5 ⊢;rw [bA,if_neg hk,if_neg oq,if_pos h5]
noncomputable def c46:Code:=aF Tryz.f46
abbrev sH (l:List Int)(d:Int)(q:Nat):List aa:=[.int .i64 ((ai l d.toNat q).kind),.str (ai l d.toNat q).name,.int .i64 ((ai l d.toNat q).n),.imm ((ai l d.toNat q).names.map aa.str),.own 1 0 (ai l d.toNat q).kids.length]
abbrev Mf (l:List Int)(d:Int)(q:Nat):List aa:=[.int .i64 ((ai l d.toNat q).kind),.str (ai l d.toNat q).name,.int .i64 ((ai l d.toNat q).n),.imm ((ai l d.toNat q).names.map aa.str),.full [Ty.v (bA l (d - 1).toNat (q+1))]]
abbrev LZ (l:List Int)(d:Int)(q:Nat)(m:Int):List aa:=[.int .i64 ((ai l d.toNat q).kind),.str (ai l d.toNat q).name,.int .i64 (11+(m)),.imm ((ai l d.toNat q).names.map aa.str),.own 1 0 (ai l d.toNat q).kids.length]
abbrev nR (l:List Int)(d:Int)(q:Nat):=(ai l d.toNat q)
abbrev DZ (l:List Int)(q:Nat):Nat×aa:=(8,.int .i64 (ah l (q+7) 5))
theorem Av {p:Prop} (h:p:=by simp [aa.frz,aQ,aa.ren,cV,iK,ax.ren,bD,cG,aG,aa.owns,yZ,yY,Ty.v]):p:=h
theorem tZ (l:List Int) (q:Nat) (d:Int) (hl:ji l) (hq:(q:Int)+100 * d<=900000) (hd:0<=d/\d<=2):af cx 46 [.imm (l.map (aa.int .i64)),.int .i64 ((q:Nat):Int),.int .i64 (d)] (Ty.v (bA l d.toNat q)):=by
 induction hN:d.toNat using Nat.strongRecOn generalizing q d with|_ N ih =>
 rw [<- hN];have ihO:∀ q':Nat,0<d->(q':Int)+100 * (d - 1)<=900000->af cx 46 [.imm (l.map (.int .i64)),.int .i64 (q':Nat),.int .i64 (d - 1)] (bA l (d - 1).toNat q').v:=fun q' h1 h2=>ih _ oq q' (d - 1) h2 oq rfl
 have hnm:=BQ;have hsm:=fun q=>l7 l d.toNat q oq
 have hz1:=jh (ai l d.toNat q);have hz2:=iT (ai l d.toNat q);refine am (cx:=cx) 85 0 [(ResultVar.cell 6 43)] Tryz.func46 rfl rfl rfl rfl rfl zq ?_;show wpA cx 85 0 (at_ c46 []) _ _ _;refine zZ (fun _=>[(iE l),(1,nI q),(2,.int .i64 (d))]) (fun _=>[]) ?_ ?_;refine zW 1 (fun _=>[(iE l),(1,nI q),(2,.int .i64 (d)),(6,.ptr 0 0)]) (fun _=>[.box fw]) ?_ ?_;apply zV 3;refine LD (args:=[.imm (l.map (aa.int .i64)),nI q,.int .i64 (d)]) (args':=[.imm (l.map (aa.int .i64)),nI q,.int .i64 (d)]) (V1':=.agg (sH l d q)) (G1':=[.arr 5 ((nR l d q).kids.map Ty.enc) 0]) (V2':=Ty.v (nR l d q)) (G2':=[]) (F:=[.box fw]) kq kq kq kq (EE hl oq hd) [.box fw] kq Av Av Av Av Av Av Av ?_ ?_;intro h5;apply zR 2 (mU [(7,.ptr 2 0)]) (mH [] [.arr 5 ((nR l d q).kids.map Ty.enc) 0,.box (sH l d q)]);apply zV 2;refine qy (aA (a:=((q:Nat):Int)) (b:=7) kq bn bn) ?_ ?_ ?_;refine qP (bm l (q+7) 5 bn bn) aH aH aH kq ?_;have hv1:=a6 l (q+7) 5 dq;apply zR 1 (mU [(DZ l q)]) id;apply ao;apply zW 2 (mU [(21,.bool ((ah l (q+7) 5)==0))]) id;by_cases hb2:(ah l (q+7) 5)=0;apply qt (beq_iff_eq.2 hb2);apply zV 2;refine qy (aA (a:=((q:Nat):Int)) (b:=8) kq bn bn) ?_ ?_ ?_;refine qP (bm l (q+8) 2 bn bn) aH aH aH kq ?_;have hv3:=a6 l (q+8) 2 dq;refine qy (aA (a:=1) (b:=(ah l (q+8) 2)) kq bn bn) ?_ ?_ ?_;refine zR 2 (fun _=>[(6,.ptr 0 0)]) (fun _=>[.box [.int .i64 6,.str [],.int .i64 (1+(ah l (q+8) 2)),.full [],.full []],.arr 5 ((nR l d q).kids.map Ty.enc) 0,.box (sH l d q)]) ?_ ?_;refine bq kq ?_;apply aR;refine cq (l:=[.agg [.int .i64 6,.str [],.int .i64 (1+(ah l (q+8) 2)),.full [],.full []]]) (.inr rfl) kq ?_
 rotate_left
 iterate 7 kernel_rfl
 apply qf (beq_eq_false_iff_ne.2 hb2);apply qK;apply zZ (mT [] [21]) id;apply ao;apply zV 4;by_cases hb4:((ai l d.toNat q).kind)=4
 . exfalso;omega
 apply zm [30,31] (beq_eq_false_iff_ne.2 hb4);apply zR 3 (mU [(34,.bool false)]) id;refine fM kq kq ?_;apply qK;apply zZ (mT [] [34]) id;apply ao;apply zV 4;by_cases hb5:((ai l d.toNat q).kind)=5;apply zm [45,46] (beq_iff_eq.2 hb5);apply zR 3 (mU [(49,.bool (decide ((d) > 0)))]) id;by_cases hb6:(d) > 0;apply qt (decide_eq_true hb6);apply zW 1 (mT [(9,.int .i64 0)] [49]) id;apply ao;apply zW 1 (mU [(10,.int .i64 0)]) id;apply qB 0;refine aU (σ:=(Nat×Int×List Ty)) (fun ⟨i,m,ks⟩=>[(iE l),(1,nI q),(2,.int .i64 (d)),(6,.ptr 0 0),(7,.ptr 2 0),(DZ l q),(9,.int .i64 (m)),(10,nI i)]) (fun ⟨i,m,ks⟩=>[.box fw,.arr 5 (ks.map Ty.enc) 0,.box (sH l d q)]) (fun ⟨i,m,ks⟩=>((i<=4/\0<=m/\m+1<=(2:Int) ^ i)/\ks.length=(ai l d.toNat q).kids.length)/\opF (ai l d.toNat q).names (fun i=>bA l (d - 1).toNat (q+3+i)) (4 - i) i m ks=(opF (ai l d.toNat q).names (fun i=>bA l (d - 1).toNat (q+3+i)) 4 0 0 (ai l d.toNat q).kids)) (fun ⟨i,m,ks⟩=>4 - i) (0,0,(ai l d.toNat q).kids) kq (by exact ⟨⟨⟨by omega,by omega,by decide⟩,rfl⟩,rfl⟩) (fg kq kq az (by simp [ax.belO,-List.map_set])) ?_;rintro ⟨i,m,ks⟩ ⟨⟨⟨hi,hm0,hm1⟩,hkl⟩,hR⟩;have hp:=LL i hi;have hix:=H1 (ai l d.toNat q).names (nms.getD i []);have hnk2:=Aa l d.toNat q h5;have hsq:=hsm q;refine zZ (fun _=>[(iE l),(1,nI q),(2,.int .i64 (d)),(6,.ptr 0 0),(7,.ptr 2 0),(DZ l q),(9,.int .i64 (m)),(10,nI i)]) (fun _=>[.box fw,.arr 5 (ks.map Ty.enc) 0,.box (sH l d q)]) ?_ ?_;apply ao;apply zW 2 (mU [(51,.bool (decide (((i:Nat):Int)<4)))]) id;by_cases hb7:((i:Nat):Int)<4;apply qt (decide_eq_true hb7);apply qK;apply zZ (mT [] [51]) id;apply ao;apply qB 1;apply ao;refine zD cxM kq aj ?_;apply qu 2;refine qQ (oU) (kq) kq kq kq ?_;apply qu 1;refine qd (av (k:=.i64) (l:=nms) (enc:=aa.str) (i:=((i:Nat):Int)) [] kq bf ty9 (fun _=>rfl) bn bn) ?_ ?_ ?_ ?_;apply qu 1;refine qQ (xS ((ai l d.toNat q).names) (nms.getD i []) bn) aH aH aH kq ?_;apply qu 1;refine bh kq ⟨kq,?_⟩;apply zE (mU [(11,.int .i64 (bQ ((nR l d q).names) (nms.getD i [])))]) id;apply zV 1;refine qy (x5 (a:=2) (b:=(m)) kq bn bn) ?_ ?_ ?_;apply zR 1 (mU [(9,.int .i64 (2 * (m)))]) id;apply zW 2 (mU [(64,.bool (decide ((bQ ((nR l d q).names) (nms.getD i [])) >= 0)))]) id;by_cases hb8:(bQ ((ai l d.toNat q).names) (nms.getD i [])) >= 0;apply qt (decide_eq_true hb8);apply zV 1;refine qy (aA (a:=(2 * (m))) (b:=1) kq bn bn) ?_ ?_ ?_;apply zR 1 (mT [(9,.int .i64 ((2 * (m))+1))] [64]) id;refine zD cxM kq (dE aj) ?_;apply qu 5;refine qd (aA (a:=((q:Nat):Int)) (b:=3) kq bn bn) ?_ ?_ ?_ ?_;apply qu 1;refine qd (aA (a:=(((q+3):Nat):Int)) (b:=((i:Nat):Int)) kq bn bn) ?_ ?_ ?_ ?_;apply qu 1;refine qd (fd (a:=(d)) (b:=1) kq bn bn) ?_ ?_ ?_ ?_;refine qQ (ihO ((q+3)+i) bn bn) aH aH aH kq ?_;refine qd (b9 (k:=.i64) (i:=(bQ ((ai l d.toNat q).names) (nms.getD i []))) (o:=1) (off:=0) (len:=((ai l d.toNat q).kids.length)) (sz:=5) (fr:=0) (es:=(ks.map Ty.enc)) kq dC gF kq rfl (by simp [hkl]) bn bn) ?_ ?_ ?_ ?_;refine qD (iV (o:=1) (k:=((ks.map Ty.enc).length)) (x:=Ty.v (bA l (d - 1).toNat ((q+3)+i))) (enc:=Ty.enc) (l:=ks) (X:=(bA l (d - 1).toNat ((q+3)+i))) (d:=Ty.zero) (idx:=(0+((bQ ((ai l d.toNat q).names) (nms.getD i []))).toNat)) (sz:=5) kq (Ty.enc_v (bA l (d - 1).toNat ((q+3)+i))).symm kq zq bn gF LF HL) ?_ ?_ ?_ ?_;refine bh kq ⟨kq,?_⟩;apply ag;apply ab;refine zZ (fun _=>[(iE l),(1,nI q),(2,.int .i64 (d)),(6,.ptr 0 0),(7,.ptr 2 0),(DZ l q),(9,.int .i64 ((2 * (m))+1)),(10,nI i)]) (fun _=>[.box fw,.arr 5 ((ks.set (0+((bQ ((nR l d q).names) (nms.getD i []))).toNat) (bA l (d - 1).toNat ((q+3)+i))).map Ty.enc) 0,.box (sH l d q)]) ?_ ?_;apply qo;apply qr 1;refine qy (aA (a:=((i:Nat):Int)) (b:=1) kq bn bn) ?_ ?_ ?_;apply qr 1;apply qe;refine ab ⟨(i+1,((2 * (m))+1),(ks.set (0+((bQ ((ai l d.toNat q).names) (nms.getD i []))).toNat) (bA l (d - 1).toNat ((q+3)+i)))),?_,?_,(fg kq kq az (by simp [ax.belO,-List.map_set]))⟩
 . try dsimp only
   omega
 . try dsimp only
   first|(refine ⟨⟨⟨by omega,by omega,by rw [Int.pow_succ];omega⟩,by simpa using hkl⟩,?_⟩;rw [<- hR,JQ (i:=i) (m:=m) (ks:=ks) oq aq];simp only [Nat.zero_add];done)|(refine ⟨⟨⟨by omega,by omega,by rw [Int.pow_succ];omega⟩,hkl⟩,?_⟩;rw [<- hR,Kz (i:=i) (m:=m) (ks:=ks) oq aq];done)
 iterate 30 kernel_rfl
 apply qf (decide_eq_false hb8);apply qk;apply ag;apply ab;apply zZ (mT [] [11,64]) id;apply qo;apply qr 1;refine qy (aA (a:=((i:Nat):Int)) (b:=1) kq bn bn) ?_ ?_ ?_;apply qr 1;apply qe;refine ab ⟨(i+1,(2 * (m)),ks),?_,?_,(fg kq kq az (by simp [ax.belO,-List.map_set]))⟩
 . try dsimp only
   omega
 . try dsimp only
   first|(refine ⟨⟨⟨by omega,by omega,by rw [Int.pow_succ];omega⟩,by simpa using hkl⟩,?_⟩;rw [<- hR,JQ (i:=i) (m:=m) (ks:=ks) oq aq];simp only [Nat.zero_add];done)|(refine ⟨⟨⟨by omega,by omega,by rw [Int.pow_succ];omega⟩,hkl⟩,?_⟩;rw [<- hR,Kz (i:=i) (m:=m) (ks:=ks) oq aq];done)
 iterate 29 kernel_rfl
 apply qf (decide_eq_false hb7);refine aK 0 kq kq ?_;apply ac;apply ac;apply au;apply ab;apply zZ (mT [] [0,1,2,10,51]) id;apply zW 2 (mT [(80,.bool (decide ((ah l (q+7) 5)<3)))] [8]) id;by_cases hb9:(ah l (q+7) 5)<3;apply qt (decide_eq_true hb9);apply qo;apply qr 1;refine qy (aA (a:=11) (b:=(m)) kq bn bn) ?_ ?_ ?_;apply qR 2 [(6,.ptr 0 0),(7,.ptr 2 0)] [.box fw,.arr 5 (ks.map Ty.enc) 0,.box (LZ l d q m)];refine zW 2 (fun _=>[(6,.ptr 0 0)]) (fun _=>[.box (LZ l d q m),.arr 5 (ks.map Ty.enc) 0,.box (LZ l d q m)]) ?_ ?_;refine bq kq ?_;refine cq (l:=[.agg [.int .i64 ((ai l d.toNat q).kind),.str (ai l d.toNat q).name,.int .i64 (11+(m)),.imm ((ai l d.toNat q).names.map aa.str),.own 1 0 (ai l d.toNat q).kids.length]]) (.inr rfl) kq ?_
 rotate_left
 iterate 7 kernel_rfl
 apply qf (decide_eq_false hb9);apply qK;apply zZ (mT [] [9,80]) id;refine zW 2 (fun _=>[(6,.ptr 0 0)]) (fun _=>[.box (sH l d q),.arr 5 (ks.map Ty.enc) 0,.box (sH l d q)]) ?_ ?_;refine bq kq ?_;refine cq (l:=[.agg [.int .i64 ((ai l d.toNat q).kind),.str (ai l d.toNat q).name,.int .i64 ((ai l d.toNat q).n),.imm ((ai l d.toNat q).names.map aa.str),.own 1 0 (ai l d.toNat q).kids.length]]) (.inr rfl) kq ?_
 rotate_left
 iterate 16 kernel_rfl
 apply qf (decide_eq_false hb6);apply qK;apply zZ (mT [] [0,1,2,8,49]) id;refine zW 2 (fun _=>[(6,.ptr 0 0)]) (fun _=>[.box (sH l d q),.arr 5 ((nR l d q).kids.map Ty.enc) 0,.box (sH l d q)]) ?_ ?_;refine bq kq ?_;refine cq (l:=[.agg [.int .i64 ((ai l d.toNat q).kind),.str (ai l d.toNat q).name,.int .i64 ((ai l d.toNat q).n),.imm ((ai l d.toNat q).names.map aa.str),.own 1 0 (ai l d.toNat q).kids.length]]) (.inr rfl) kq ?_
 rotate_left
 iterate 6 kernel_rfl
 . exfalso;omega
 iterate 18 kernel_rfl
 intro n5;apply zR 2 (mU [(7,.ptr 1 0)]) (mH [] [(nR l d q).bx]);apply zV 2;refine qy (aA (a:=((q:Nat):Int)) (b:=7) kq bn bn) ?_ ?_ ?_;refine qP (bm l (q+7) 5 bn bn) aH aH aH kq ?_;have hv10:=a6 l (q+7) 5 dq;apply zR 1 (mU [(DZ l q)]) id;apply ao;apply zW 2 (mU [(21,.bool ((ah l (q+7) 5)==0))]) id;by_cases hb11:(ah l (q+7) 5)=0;apply qt (beq_iff_eq.2 hb11);apply zV 2;refine qy (aA (a:=((q:Nat):Int)) (b:=8) kq bn bn) ?_ ?_ ?_;refine qP (bm l (q+8) 2 bn bn) aH aH aH kq ?_;have hv12:=a6 l (q+8) 2 dq;refine qy (aA (a:=1) (b:=(ah l (q+8) 2)) kq bn bn) ?_ ?_ ?_;refine zR 2 (fun _=>[(6,.ptr 0 0)]) (fun _=>[.box [.int .i64 6,.str [],.int .i64 (1+(ah l (q+8) 2)),.full [],.full []],(nR l d q).bx]) ?_ ?_;refine bq kq ?_;apply aR;refine cq (l:=[.agg [.int .i64 6,.str [],.int .i64 (1+(ah l (q+8) 2)),.full [],.full []]]) (.inr rfl) kq ?_
 rotate_left
 iterate 7 kernel_rfl
 apply qf (beq_eq_false_iff_ne.2 hb11);apply qK;apply zZ (mT [] [21]) id;apply ao;apply zV 4;by_cases hb13:((ai l d.toNat q).kind)=4;apply zm [30,31] (beq_iff_eq.2 hb13);apply zR 3 (mU [(34,.bool (decide ((d) > 0)))]) id;by_cases hb14:(d) > 0;apply qt (decide_eq_true hb14);apply qo;apply qr 2;refine qy (aA (a:=((q:Nat):Int)) (b:=1) kq bn bn) ?_ ?_ ?_;apply qr 1;refine qy (fd (a:=(d)) (b:=1) kq bn bn) ?_ ?_ ?_;refine qP (ihO (q+1) bn bn) aH aH aH kq ?_;apply qR 3 [(iE l),(1,nI q),(2,.int .i64 (d)),(6,.ptr 0 0),(7,.ptr 1 0),(DZ l q)] [.box fw,.box (Mf l d q)];apply ao;apply zV 4;by_cases hb15:((ai l d.toNat q).kind)=5
 . exfalso;omega
 apply zm [45,46] (beq_eq_false_iff_ne.2 hb15);apply zR 3 (mU [(49,.bool false)]) id;refine fM kq kq ?_;apply qK;apply zZ (mT [] [0,1,2,8,49]) id;refine zW 2 (fun _=>[(6,.ptr 0 0)]) (fun _=>[.box (Mf l d q),.box (Mf l d q)]) ?_ ?_;refine bq kq ?_;refine cq (l:=[.agg [.int .i64 ((ai l d.toNat q).kind),.str (ai l d.toNat q).name,.int .i64 ((ai l d.toNat q).n),.imm ((ai l d.toNat q).names.map aa.str),.full [Ty.v (bA l (d - 1).toNat (q+1))]]]) (.inr rfl) kq ?_
 rotate_left
 iterate 16 kernel_rfl
 apply qf (decide_eq_false hb14);apply qK;apply zZ (mT [] [34]) id;apply ao;apply zV 4;by_cases hb16:((ai l d.toNat q).kind)=5
 . exfalso;omega
 apply zm [45,46] (beq_eq_false_iff_ne.2 hb16);apply zR 3 (mU [(49,.bool false)]) id;refine fM kq kq ?_;apply qK;apply zZ (mT [] [0,1,2,8,49]) id;refine zW 2 (fun _=>[(6,.ptr 0 0)]) (fun _=>[(nR l d q).bx,(nR l d q).bx]) ?_ ?_;refine bq kq ?_;refine cq (l:=[.agg [.int .i64 ((ai l d.toNat q).kind),.str (ai l d.toNat q).name,.int .i64 ((ai l d.toNat q).n),.imm ((ai l d.toNat q).names.map aa.str),.imm ((ai l d.toNat q).kids.map Ty.enc)]]) (.inr rfl) kq ?_
 rotate_left
 iterate 12 kernel_rfl
 apply zm [30,31] (beq_eq_false_iff_ne.2 hb13);apply zR 3 (mU [(34,.bool false)]) id;refine fM kq kq ?_;apply qK;apply zZ (mT [] [34]) id;apply ao;apply zV 4;by_cases hb17:((ai l d.toNat q).kind)=5
 . exfalso;omega
 apply zm [45,46] (beq_eq_false_iff_ne.2 hb17);apply zR 3 (mU [(49,.bool false)]) id;refine fM kq kq ?_;apply qK;apply zZ (mT [] [0,1,2,8,49]) id;refine zW 2 (fun _=>[(6,.ptr 0 0)]) (fun _=>[(nR l d q).bx,(nR l d q).bx]) ?_ ?_;refine bq kq ?_;refine cq (l:=[.agg [.int .i64 ((ai l d.toNat q).kind),.str (ai l d.toNat q).name,.int .i64 ((ai l d.toNat q).n),.imm ((ai l d.toNat q).names.map aa.str),.imm ((ai l d.toNat q).kids.map Ty.enc)]]) (.inr rfl) kq ?_
 rotate_left
 iterate 26 kernel_rfl
 all_goals
  first|(rw [IE aq];simp [bg,aa.frz,aQ,Ty.v,Ty.kind,Ty.name,Ty.n,Ty.names,Ty.kids];done)|(rw [HF aq (by first|(left;assumption)|(left;omega)|(right;exact ⟨by assumption,by assumption⟩)|(right;exact ⟨by omega,by omega⟩))];simp [bg,aa.frz,aQ,Ty.v];done)|(rw [HG (l:=l) (q:=q) (d:=d) aq oq aq];have h4:=(by assumption:(ai l d.toNat q).kind=4);exact Ei h4)|(rw [Je aq oq h5,<- hR,show 4 - i=0 by omega];(first|rw [if_pos aq]|rw [if_neg aq]);simp [opF,bg,aa.frz,aQ,Ty.v,hkl,h5];done)
end Go.Proofs.YtcpklndelobigaaGreatDoor
