/- G8 of the reference. No condition. -/
import Derived.Test.YtcpklndelobigaaGreatDoorCF
set_option linter.all false
namespace Go.Proofs.YtcpklndelobigaaGreatDoor
open Go.Proofs.YtcpklndelobigaaGreatDoor.Abs
set_option maxRecDepth 20000
set_option maxHeartbeats 4000000
noncomputable def QE:Code:=aF Tryz.f101
theorem yO  :af cx 101 [] (.imm [.str [97],.str [98],.str [99],.str [105,100]]):=by
 refine am (cx:=cx) 2 0 [(ResultVar.tmp 0)] Tryz.func101 rfl rfl rfl rfl rfl zq ?_;show wpA cx 2 0 (at_ QE []) _ _ _;refine zZ (fun _=>[]) (fun _=>[]) ?_ ?_;apply zW 1 id id;refine zW 2 (fun _=>[(0,.full [.str [97],.str [98],.str [99],.str [105,100]])]) (fun _=>[]) ?_ ?_;refine bq kq ?_;refine cq (l:=[.full [.str [97],.str [98],.str [99],.str [105,100]]]) (.inr rfl) kq ?_
 . exact ⟨rfl,rfl⟩
 iterate 3 kernel_rfl
def nms:List (List UInt8):=[[97],[98],[99],[105,100]]
theorem oU:af cx 101 [] (.imm (nms.map .str)):=yO
theorem BQ:nms.length=4:=rfl
def gu (k:Int):Ty:=if k=3 then .mk 3 [67,111,108,111,114] 0 [] [] else if k=4 then .mk 3 [83,104,97,112,101] 0 [] [] else .mk k [] 0 [] []
def mq (kid:Nat->Ty):Nat->Nat->Int->Ty->Ty
 | 0,_,_,o=>o
 | f+1,i,w,o=>mq kid f (i+1) (w.tdiv 2) (if w.tmod 2=1 then pR o (nms.getD i []) (kid i) else o)
def DU:Ty:=.mk 5 [] 0 [] []
def ai (l:List Int):Nat->Nat->Ty
 | 0,q=>gu ((ah l q 8).tmod 5)
 | d+1,q=>if ah l q 8<5 then gu (ah l q 8) else if ah l q 8=5 then .mk 4 [] 0 [] [ai l d (q+1)]
  else mq (fun i=>ai l d (q+2+3 * i)) 4 0 (ah l (q+1) 16) DU
theorem AM (a b:List (List UInt8)):szS (a++b)=szS a+szS b:=by
 induction a with
 | nil=>simp [szS]
 | cons x a ih=>simp [szS,ih];omega
theorem Cd (a b:List Ty):Ty.szL (a++b)=Ty.szL a+Ty.szL b:=by
 induction a with
 | nil=>simp [Ty.szL]
 | cons x a ih=>simp [Ty.szL,ih];omega
theorem u6 (t:Ty) (s:List UInt8) (x:Ty):(pR t s x).sz<=t.sz+s.length+1+x.sz+1:=by
 have e:=re t;have h1:szS t.names=szS (t.names.take (j5 t.names s))+szS (t.names.drop (j5 t.names s)):=by rw [<- AM,List.take_append_drop]
 have h2:Ty.szL t.kids=Ty.szL (t.kids.take (j5 t.names s))+Ty.szL (t.kids.drop (j5 t.names s)):=by rw [<- Cd,List.take_append_drop]
 simp only [pR,sE,ru,Ty.sz,AM,Cd,szS,Ty.szL,List.length_nil];omega
theorem vl (t:Ty) (s:List UInt8) (x:Ty) (h:t.names.length=t.kids.length):(pR t s x).names.length=(pR t s x).kids.length:=by
 show (sE t s).length=(ru t s x).length;simp only [sE,ru,List.length_append,List.length_take,List.length_drop,h,List.length_cons,List.length_nil]
def bd:Nat->Nat
 | 0=>20
 | n+1=>4 * (bd n+10)+20
theorem Ae (i:Nat):(nms.getD i []).length<=2:=by
 match i with
 | 0=>decide
 | 1=>decide
 | 2=>decide
 | 3=>decide
 | i+4=>simp [nms]
theorem BD (kid:Nat->Ty) (b:Nat) (hk:∀ i,(kid i).sz<=b):∀ f i w o,(mq kid f i w o).sz<=o.sz+f * (b+4)
 | 0,i,w,o=>by simp [mq]
 | f+1,i,w,o=>by
  have:=BD kid b hk f (i+1) (w.tdiv 2) (if w.tmod 2=1 then pR o (nms.getD i []) (kid i) else o);simp only [mq];refine Nat.le_trans this ?_;have e:(f+1) * (b+4)=f * (b+4)+(b+4):=Nat.succ_mul _ _;rw [e];split
  . have h1:=u6 o (nms.getD i []) (kid i);have h2:=hk i;have h3:=Ae i;omega
  . omega
theorem yh (k:Int):(gu k).sz<=20:=by
 unfold gu;split
 . decide
 . split
   . decide
   . simp [Ty.sz,szS,Ty.szL]
theorem jS (l:List Int):∀ d q,(ai l d q).sz<=bd d
 | 0,q=>yh _
 | d+1,q=>by
  have ih:=jS l d;have hp:20<=bd (d+1):=by simp only [bd];omega
  unfold ai;split
  . exact Nat.le_trans (yh _) hp
  . split
    . simp only [Ty.sz,szS,Ty.szL,bd,List.length_nil];have:=ih (q+1);omega
    . have:=BD (fun i=>ai l d (q+2+3 * i)) (bd d) (fun i=>ih _) 4 0 (ah l (q+1) 16) DU;have e:DU.sz=1:=rfl;simp only [bd];omega
theorem l7 (l:List Int) (d q:Nat) (h:d<=2):(ai l d q).sz<=10000:=by
 refine Nat.le_trans (jS l d q) ?_
 match d,h with
 | 0,_=>decide
 | 1,_=>decide
 | 2,_=>decide
def clQ (t:Ty) (v:aa) (h:ae):Prop:=(t.kind=5/\v=yZ t/\h=yY t)\/(¬ t.kind=5/\v.frz h=t.v)
theorem GI (t:Ty):(yZ t).frz (yY t)=t.v:=by simp [yZ,yY,aa.frz,aQ,Ty.v]
theorem I2 {t:Ty} {v:aa} {h:ae} (hq:clQ t v h):v.frz h=t.v:=by
 rcases hq with ⟨_,rfl,rfl⟩|⟨_,h1⟩
 . exact GI t
 . exact h1
theorem Gi {l:List Int} {q:Nat} {d:Int} {t:Ty} (h:aE cx 99 [.imm (l.map (.int .i64)),.int .i64 (q:Nat),.int .i64 d] [] (clQ t)):af cx 99 [.imm (l.map (.int .i64)),.int .i64 (q:Nat),.int .i64 d] t.v:=eX h (fun _ _=>I2) zq
theorem lI (kid:Nat->Ty) (i:Nat) (w:Int) (o:Ty) (h:i<4):mq kid (4 - i) i w o=mq kid (4 - (i+1)) (i+1) (w.tdiv 2) (if w.tmod 2=1 then pR o (nms.getD i []) (kid i) else o):=by
 rw [show 4 - i=(4 - (i+1))+1 by omega,mq]
theorem x8 {a i:Nat} (h:a<=1+i * 20000):a<=1+(i+1) * 20000:=Nat.le_trans h (Nat.add_le_add_left (Nat.mul_le_mul_right _ (Nat.le_succ i)) 1)
theorem Iu {w:Int} (h:0<=w) (h1:w<16):0<=w.tdiv 2/\w.tdiv 2<16:=by
 rw [Int.tdiv_eq_ediv_of_nonneg h];omega
theorem lE {d:Int} (h:0<d):d.toNat=(d - 1).toNat+1:=by omega
theorem CP {l:List Int} {q:Nat} {d:Int} (h:d=0):ai l d.toNat q=gu ((ah l q 8).tmod 5):=by rw [h];rfl
theorem uf {l:List Int} {q:Nat} {d:Int} (h:0<d) (h5:ah l q 8<5):ai l d.toNat q=gu (ah l q 8):=by rw [lE h,ai,if_pos h5]
theorem tH {l:List Int} {q:Nat} {d:Int} (h:0<d) (h5:ah l q 8=5):ai l d.toNat q=.mk 4 [] 0 [] [ai l (d - 1).toNat (q+1)]:=by rw [lE h,ai,if_neg oq,if_pos h5]
theorem Cp {l:List Int} {q:Nat} {d:Int} (h:0<d) (h5:5<ah l q 8):ai l d.toNat q=mq (fun i=>ai l (d - 1).toNat (q+2+3 * i)) 4 0 (ah l (q+1) 16) DU:=by rw [lE h,ai,if_neg oq,if_neg oq]
theorem wi {t:Ty} {v:aa} {h:ae} {k:Int} (e:t=gu k) (hk:0<=k/\k<5) (hv:v.frz h=(gu k).v):clQ t v h:=by
 subst e;refine .inr ⟨?_,hv⟩;unfold gu;split
 . simp [Ty.kind]
 . split
   . simp [Ty.kind]
   . simp only [Ty.kind];omega
noncomputable def c99:Code:=aF Tryz.f99
abbrev fw :List aa:=[.int .i64 0,.str [],.int .i64 0,.full [],.full []]
abbrev GQ (l:List Int)(q:Nat)(d:Int)(w:Int)(i:Nat):List (Nat×aa):=[(0,.imm (l.map (aa.int .i64))),(1,nI q),(2,.int .i64 (d)),(6,.ptr 0 0),(8,.ptr 1 0),(9,.int .i64 (w)),(10,nI i)]
abbrev Hx (o:Ty):List aa:=[.int .i64 (o.kind),.str o.name,.int .i64 (o.n),.imm (o.names.map aa.str),.own 2 0 o.kids.length]
abbrev Hh (o:Ty)(i:Nat)(l:List Int)(d:Int)(q:Nat):=(ru o (nms.getD i []) (ai l (d - 1).toNat ((q+2)+(3 * i))))
abbrev s5 (l:List Int)(q:Nat):=((ah l q 8).tmod 5)
abbrev NT (o:Ty):List ax:=[.arr 5 (o.kids.map Ty.enc) 0,.box [.int .i64 (o.kind),.str o.name,.int .i64 (o.n),.imm (o.names.map aa.str),.own 0 0 o.kids.length]]
abbrev iE (l:List Int):Nat×aa:=(0,.imm (l.map (aa.int .i64)))
abbrev PR (o:Ty)(i:Nat)(l:List Int)(d:Int)(q:Nat):List ax:=[.box fw,.box [.int .i64 5,.str [],.int .i64 (o.n),.imm ((sE o (nms.getD i [])).map aa.str),.own 2 0 (Hh o i l d q).length],.arr 5 ((Hh o i l d q).map Ty.enc) 0]
abbrev Mp (l:List Int)(q:Nat):List ax:=[.box [.int .i64 (ah l q 8),.str [],.int .i64 0,.full [],.full []]]
abbrev Ha (l:List Int)(q:Nat):List ax:=[.box [.int .i64 (s5 l q),.str [],.int .i64 0,.full [],.full []]]
abbrev G4 :List ax:=[.box [.int .i64 3,.str [67,111,108,111,114],.int .i64 0,.full [],.full []]]
abbrev KG :List ax:=[.box [.int .i64 3,.str [83,104,97,112,101],.int .i64 0,.full [],.full []]]
theorem bn {p:Prop} (h:p:=by first|omega|assumption|decide):p:=h
theorem Ek {p:Prop} (h:p:=by simp [aa.frz,aQ,aa.ren,cV,iK,ax.ren,bD,cG,aG,aa.owns,nq,lu,Ty.v]):p:=h
theorem Pe {p:Prop} (h:p:=by simp [bg,aa.frz,aQ,Ty.v,Ty.kind,Ty.name,Ty.n,Ty.names,Ty.kids,gu, *];done):p:=h
theorem ym (l:List Int) (q:Nat) (d:Int) (hl:ji l) (hq:(q:Int)+100 * d<=1000000) (hd:0<=d/\d<=3):aE cx 99 [.imm (l.map (aa.int .i64)),.int .i64 ((q:Nat):Int),.int .i64 (d)] [] (clQ (ai l d.toNat q)):=by
 induction hN:d.toNat using Nat.strongRecOn generalizing q d with|_ N ih =>
 rw [<- hN];have ihP:∀ q':Nat,0<d->(q':Int)+100 * (d - 1)<=1000000->af cx 99 [.imm (l.map (.int .i64)),.int .i64 (q':Nat),.int .i64 (d - 1)] (ai l (d - 1).toNat q').v:=fun q' h1 h2=>Gi (ih _ oq q' (d - 1) h2 oq rfl)
 have hnm:=BQ;have hpk:=a6 l q 8 dq;have htm:=qj hpk.1 (show (0:Int)<5 by decide);have hsm:=fun q=>l7 l (d - 1).toNat q oq
 refine fo (cx:=cx) 71 0 [(ResultVar.cell 6 43)] Tryz.func99 rfl rfl rfl rfl rfl zq ?_;show wpA cx 71 0 (at_ c99 []) _ _ _;refine zZ (fun _=>[(iE l),(1,nI q),(2,.int .i64 (d))]) (fun _=>[]) ?_ ?_;apply zW 1 (mU [(6,.ptr 0 0)]) (mH [] [.box fw]);apply zV 2;refine qP (bm l q 8 bn bn) aH aH aH kq ?_;have hv1:=a6 l q 8 dq;apply zR 1 (mU [(7,.int .i64 (ah l q 8))]) id;apply ao;apply zW 2 (mU [(15,.bool ((d)==0))]) id;by_cases hb2:(d)=0;apply qt (beq_iff_eq.2 hb2);apply qo;apply qr 1;refine qy (BN (a:=(ah l q 8)) (b:=5) kq dq) ?_ ?_ ?_;apply qR 1 [(iE l),(1,nI q),(2,.int .i64 (d)),(6,.ptr 0 0),(7,.int .i64 (s5 l q))] [.box fw];apply ao;apply zW 1 (mU [(18,.int .i64 (s5 l q))]) id;apply qB 0;apply ao;apply zW 2 (mU [(19,.bool ((s5 l q)==0))]) id;by_cases hb3:((ah l q 8).tmod 5)=0;apply qt (beq_iff_eq.2 hb3);apply qK;apply zZ id id;apply qt (beq_iff_eq.2 hb3);refine zW 3 (fun _=>[(6,.ptr 0 0)]) (fun _=>(Ha l q)) ?_ ?_;refine bq kq ?_;apply iR;apply aR;refine gv (l:=[.agg [.int .i64 ((ah l q 8).tmod 5),.str [],.int .i64 0,.full [],.full []]]) 0 [] (.inr rfl) kq (Nat.zero_le _) kq ni nA ?_
 rotate_left
 iterate 5 kernel_rfl
 apply qf (beq_eq_false_iff_ne.2 hb3);apply zW 2 (mU [(19,.bool ((s5 l q)==1))]) id;by_cases hb5:((ah l q 8).tmod 5)=1;apply qt (beq_iff_eq.2 hb5);apply qK;apply zZ id id;apply qt (beq_iff_eq.2 hb5);refine zW 3 (fun _=>[(6,.ptr 0 0)]) (fun _=>(Ha l q)) ?_ ?_;refine bq kq ?_;apply iR;apply aR;refine gv (l:=[.agg [.int .i64 ((ah l q 8).tmod 5),.str [],.int .i64 0,.full [],.full []]]) 0 [] (.inr rfl) kq (Nat.zero_le _) kq ni nA ?_
 rotate_left
 iterate 5 kernel_rfl
 apply qf (beq_eq_false_iff_ne.2 hb5);apply qo;apply qR 2 [(iE l),(1,nI q),(2,.int .i64 (d)),(6,.ptr 0 0),(7,.int .i64 (s5 l q)),(18,.int .i64 (s5 l q)),(19,.bool ((s5 l q)==2))] [.box fw];by_cases hb7:((ah l q 8).tmod 5)=2;apply qt (beq_iff_eq.2 hb7);refine zW 3 (fun _=>[(6,.ptr 0 0)]) (fun _=>(Ha l q)) ?_ ?_;refine bq kq ?_;apply iR;apply aR;refine gv (l:=[.agg [.int .i64 ((ah l q 8).tmod 5),.str [],.int .i64 0,.full [],.full []]]) 0 [] (.inr rfl) kq (Nat.zero_le _) kq ni nA ?_
 rotate_left
 iterate 2 kernel_rfl
 apply qf (beq_eq_false_iff_ne.2 hb7);apply zW 2 (mT [(25,.bool ((s5 l q)==3))] [7,19]) id;by_cases hb8:((ah l q 8).tmod 5)=3;apply qt (beq_iff_eq.2 hb8);refine zW 2 (fun _=>[(6,.ptr 0 0)]) (fun _=>G4) ?_ ?_;refine bq kq ?_;apply iR;apply aR;refine gv (l:=[.agg [.int .i64 3,.str [67,111,108,111,114],.int .i64 0,.full [],.full []]]) 0 [] (.inr rfl) kq (Nat.zero_le _) kq ni nA ?_
 rotate_left
 iterate 2 kernel_rfl
 apply qf (beq_eq_false_iff_ne.2 hb8);apply zW 2 (mT [(28,.bool ((s5 l q)==4))] [25]) id;by_cases hb9:((ah l q 8).tmod 5)=4;apply qt (beq_iff_eq.2 hb9);refine zW 2 (fun _=>[(6,.ptr 0 0)]) (fun _=>KG) ?_ ?_;refine bq kq ?_;apply iR;apply aR;refine gv (l:=[.agg [.int .i64 3,.str [83,104,97,112,101],.int .i64 0,.full [],.full []]]) 0 [] (.inr rfl) kq (Nat.zero_le _) kq ni nA ?_
 rotate_left
 iterate 2 kernel_rfl
 . exfalso;omega
 iterate 21 kernel_rfl
 apply qf (beq_eq_false_iff_ne.2 hb2);apply qK;apply zZ (mT [] [15]) id;apply ao;apply zW 1 (mU [(18,.int .i64 (ah l q 8))]) id;apply qB 0;apply ao;apply zW 2 (mU [(19,.bool ((ah l q 8)==0))]) id;by_cases hb10:(ah l q 8)=0;apply qt (beq_iff_eq.2 hb10);apply qK;apply zZ id id;apply qt (beq_iff_eq.2 hb10);refine zW 3 (fun _=>[(6,.ptr 0 0)]) (fun _=>(Mp l q)) ?_ ?_;refine bq kq ?_;apply iR;apply aR;refine gv (l:=[.agg [.int .i64 (ah l q 8),.str [],.int .i64 0,.full [],.full []]]) 0 [] (.inr rfl) kq (Nat.zero_le _) kq ni nA ?_
 rotate_left
 iterate 5 kernel_rfl
 apply qf (beq_eq_false_iff_ne.2 hb10);apply zW 2 (mU [(19,.bool ((ah l q 8)==1))]) id;by_cases hb12:(ah l q 8)=1;apply qt (beq_iff_eq.2 hb12);apply qK;apply zZ id id;apply qt (beq_iff_eq.2 hb12);refine zW 3 (fun _=>[(6,.ptr 0 0)]) (fun _=>(Mp l q)) ?_ ?_;refine bq kq ?_;apply iR;apply aR;refine gv (l:=[.agg [.int .i64 (ah l q 8),.str [],.int .i64 0,.full [],.full []]]) 0 [] (.inr rfl) kq (Nat.zero_le _) kq ni nA ?_
 rotate_left
 iterate 5 kernel_rfl
 apply qf (beq_eq_false_iff_ne.2 hb12);apply qo;apply qR 2 [(iE l),(1,nI q),(2,.int .i64 (d)),(6,.ptr 0 0),(7,.int .i64 (ah l q 8)),(18,.int .i64 (ah l q 8)),(19,.bool ((ah l q 8)==2))] [.box fw];by_cases hb14:(ah l q 8)=2;apply qt (beq_iff_eq.2 hb14);refine zW 3 (fun _=>[(6,.ptr 0 0)]) (fun _=>(Mp l q)) ?_ ?_;refine bq kq ?_;apply iR;apply aR;refine gv (l:=[.agg [.int .i64 (ah l q 8),.str [],.int .i64 0,.full [],.full []]]) 0 [] (.inr rfl) kq (Nat.zero_le _) kq ni nA ?_
 rotate_left
 iterate 2 kernel_rfl
 apply qf (beq_eq_false_iff_ne.2 hb14);apply zW 2 (mT [(25,.bool ((ah l q 8)==3))] [7,19]) id;by_cases hb15:(ah l q 8)=3;apply qt (beq_iff_eq.2 hb15);refine zW 2 (fun _=>[(6,.ptr 0 0)]) (fun _=>G4) ?_ ?_;refine bq kq ?_;apply iR;apply aR;refine gv (l:=[.agg [.int .i64 3,.str [67,111,108,111,114],.int .i64 0,.full [],.full []]]) 0 [] (.inr rfl) kq (Nat.zero_le _) kq ni nA ?_
 rotate_left
 iterate 2 kernel_rfl
 apply qf (beq_eq_false_iff_ne.2 hb15);apply zW 2 (mT [(28,.bool ((ah l q 8)==4))] [25]) id;by_cases hb16:(ah l q 8)=4;apply qt (beq_iff_eq.2 hb16);refine zW 2 (fun _=>[(6,.ptr 0 0)]) (fun _=>KG) ?_ ?_;refine bq kq ?_;apply iR;apply aR;refine gv (l:=[.agg [.int .i64 3,.str [83,104,97,112,101],.int .i64 0,.full [],.full []]]) 0 [] (.inr rfl) kq (Nat.zero_le _) kq ni nA ?_
 rotate_left
 iterate 2 kernel_rfl
 apply qf (beq_eq_false_iff_ne.2 hb16);apply zW 2 (mT [(31,.bool ((ah l q 8)==5))] [18,28]) id;by_cases hb17:(ah l q 8)=5;apply qt (beq_iff_eq.2 hb17);apply zV 2;refine qy (aA (a:=((q:Nat):Int)) (b:=1) kq bn bn) ?_ ?_ ?_;apply qr 1;refine qy (fd (a:=(d)) (b:=1) kq bn bn) ?_ ?_ ?_;refine qP (ihP (q+1) bn bn) aH aH aH kq ?_;refine zR 3 (fun _=>[(6,.ptr 0 0)]) (fun _=>[.box [.int .i64 4,.str [],.int .i64 0,.full [],.full [Ty.v (ai l (d - 1).toNat (q+1))]]]) ?_ ?_;refine bq kq ?_;apply iR;apply aR;refine gv (l:=[.agg [.int .i64 4,.str [],.int .i64 0,.full [],.full [Ty.v (ai l (d - 1).toNat (q+1))]]]) 0 [] (.inr rfl) kq (Nat.zero_le _) kq ni nA ?_
 . rw [tH oq aq];exact .inr ⟨by simp [Ty.kind],by simp [bg,aa.frz,aQ,Ty.v,Ty.kind,Ty.name,Ty.n,Ty.names,Ty.kids,Ty.enc_v]⟩
 iterate 8 kernel_rfl
 apply qf (beq_eq_false_iff_ne.2 hb17);apply qk;apply ag;apply ab;apply zZ (mT [] [31]) id;apply zW 3 (mU [(8,.ptr 1 0)]) (mH [] [.box [.int .i64 5,.str [],.int .i64 0,.full [],.full []]]);apply zV 2;refine qy (aA (a:=((q:Nat):Int)) (b:=1) kq bn bn) ?_ ?_ ?_;refine qP (bm l (q+1) 16 bn bn) aH aH aH kq ?_;have hv18:=a6 l (q+1) 16 dq;apply zR 1 (mU [(9,.int .i64 (ah l (q+1) 16))]) id;apply ao;apply zW 1 (mU [(10,.int .i64 0)]) id;refine dy 1 3 (cs:=[.int .i64 5,.str [],.int .i64 0,.full [],.full []]) (y:=.full []) [.int .i64 5,.str [],.int .i64 0,.imm [],.full []] kq kq zq (by simp [List.set,aa.frz,aQ]) ?_;refine th 1 4 5 (cs:=[.int .i64 5,.str [],.int .i64 0,.imm [],.full []]) [.int .i64 5,.str [],.int .i64 0,.imm [],.own 2 0 0] dq kq kq kq ?_;apply zZ id (mO [(1,.box [.int .i64 5,.str [],.int .i64 0,.imm [],.own 2 0 0]),(2,.arr 5 (([]:List (Ty)).map Ty.enc) 0)]);apply qB 1;refine aU (σ:=(Nat×Int×Ty)) (fun ⟨i,w,o⟩=>(GQ l q d w i)) (fun ⟨i,w,o⟩=>[.box fw,.box (Hx o),.arr 5 (o.kids.map Ty.enc) 0]) (fun ⟨i,w,o⟩=>(i<=4/\0<=w/\w<16)/\(o.kind=5/\o.names.length=o.kids.length/\o.sz<=1+i * 20000)/\mq (fun i=>ai l (d - 1).toNat (q+2+3 * i)) (4 - i) i w o=ai l d.toNat q) (fun ⟨i,w,o⟩=>4 - i) (0,ah l (q+1) 16,DU) kq (by have:=a6 l (q+1) 16 dq;exact ⟨⟨by omega,this.1,this.2⟩,⟨rfl,rfl,by decide⟩,(Cp oq oq).symm⟩) (fg kq kq az (by simp [ax.belO])) ?_;rintro ⟨i,w,o⟩ ⟨⟨hi,hw0,hw1⟩,⟨ho5,hnk,hosz⟩,hR⟩;have hwd:=Iu hw0 hw1;refine zZ (fun _=>(GQ l q d w i)) (fun _=>[.box fw,.box (Hx o),.arr 5 (o.kids.map Ty.enc) 0]) ?_ ?_;apply ao;apply zW 2 (mU [(47,.bool (decide (((i:Nat):Int)<4)))]) id;by_cases hb19:((i:Nat):Int)<4;apply qt (decide_eq_true hb19);apply qK;apply zZ (mT [] [47]) id;apply ao;apply qB 2;apply ao;apply zV 1;refine qy (BN (a:=(w)) (b:=2) kq dq) ?_ ?_ ?_;apply zR 1 (mU [(52,.bool (((w).tmod 2)==1))]) id;by_cases hb20:((w).tmod 2)=1;apply qt (beq_iff_eq.2 hb20);refine zD cxM kq aj ?_;apply qu 1;refine qQ (oU) (kq) kq kq kq ?_;apply qu 1;refine qd (av (k:=.i64) (l:=nms) (enc:=aa.str) (i:=((i:Nat):Int)) [] kq bf ty9 (fun _=>rfl) bn bn) ?_ ?_ ?_ ?_;apply qu 3;refine qd (aA (a:=((q:Nat):Int)) (b:=2) kq bn bn) ?_ ?_ ?_ ?_;apply qu 1;refine qd (x5 (a:=3) (b:=((i:Nat):Int)) kq bn bn) ?_ ?_ ?_ ?_;refine qd (aA (a:=(((q+2):Nat):Int)) (b:=(((3 * i):Nat):Int)) kq bn bn) ?_ ?_ ?_ ?_;apply qu 1;refine qd (fd (a:=(d)) (b:=1) kq bn bn) ?_ ?_ ?_ ?_;refine qQ (ihP ((q+2)+(3 * i)) bn bn) aH aH aH kq ?_;refine Lc (args:=[.agg [.int .i64 (o.kind),.str o.name,.int .i64 (o.n),.imm (o.names.map aa.str),.own 2 0 o.kids.length],.str (nms.getD i []),Ty.v (ai l (d - 1).toNat ((q+2)+(3 * i)))]) (args':=[Ty.v o,.str (nms.getD i []),Ty.v (ai l (d - 1).toNat ((q+2)+(3 * i)))]) (V':=.agg [.int .i64 5,.str [],.int .i64 (o.n),.imm ((sE o (nms.getD i [])).map aa.str),.own 3 0 (ru o (nms.getD i []) (ai l (d - 1).toNat ((q+2)+(3 * i)))).length]) (F:=[.box [.int .i64 0,.str [],.int .i64 0,.full [],.full []],.box [.int .i64 (o.kind),.str o.name,.int .i64 (o.n),.imm (o.names.map aa.str),.own 2 0 o.kids.length],.arr 5 (o.kids.map Ty.enc) (o.kids.map Ty.enc).length]) (G':=[.arr 5 ((ru o (nms.getD i []) (ai l (d - 1).toNat ((q+2)+(3 * i)))).map Ty.enc) 0]) (L:=[2,3]) kq kq kq kq kq (I1 o (ai l (d - 1).toNat ((q+2)+(3 * i))) (nms.getD i []) oq (by first|omega|(have:=hsm (q+2+3 * i);omega)) aq) [.box [.int .i64 0,.str [],.int .i64 0,.full [],.full []],.box [.int .i64 (o.kind),.str o.name,.int .i64 (o.n),.imm (o.names.map aa.str),.own 2 0 o.kids.length],.arr 5 (o.kids.map Ty.enc) 0] kq Ek Ek (by simp [lu]) Ek Ek Ek (by first|(simp [su,aG,aa.owns,nq,lu,Ty.v];done)|(simp [su,aG,aa.owns,nq,lu,Ty.v];decide)) ?_;apply qu 1;refine bh kq ⟨kq,?_⟩;refine zE (fun _=>(GQ l q d w i)) (fun _=>[.box fw,.box [.int .i64 5,.str [],.int .i64 (o.n),.imm ((sE o (nms.getD i [])).map aa.str),.own 3 0 (Hh o i l d q).length],.arr 5 (o.kids.map Ty.enc) (o.kids.map Ty.enc).length,.arr 5 ((Hh o i l d q).map Ty.enc) 0]) ?_ ?_;refine xQ [0,1,3] (GQ l q d w i) (PR o i l d q) dq lX lX lX lX ?_;refine zZ (fun _=>(GQ l q d w i)) (fun _=>(PR o i l d q)) ?_ ?_;apply qo;apply qr 1;refine qy (Ks (a:=(w)) (b:=2) kq dq bn bn) ?_ ?_ ?_;apply qr 1;apply qe;apply ag;apply ab;refine zZ (fun _=>[(iE l),(1,nI q),(2,.int .i64 (d)),(6,.ptr 0 0),(8,.ptr 1 0),(9,.int .i64 ((w).tdiv 2)),(10,nI i)]) id ?_ ?_;apply qo;apply qr 1;refine qy (aA (a:=((i:Nat):Int)) (b:=1) kq bn bn) ?_ ?_ ?_;apply qr 1;apply qe;refine ab ⟨(i+1,w.tdiv 2,(pR o (nms.getD i []) (ai l (d - 1).toNat (q+2+3 * i)))),?_,?_,(fg kq kq az (by simp [ax.belO]))⟩
 . try dsimp only
   omega
 . try dsimp only
   first|(refine ⟨⟨by omega,hwd.1,hwd.2⟩,⟨ho5,hnk,?_⟩,?_⟩;(exact x8 hosz);rw [<- hR,lI _ i w o oq,if_neg aq];done)|(refine ⟨⟨by omega,hwd.1,hwd.2⟩,⟨rfl,vl _ _ _ hnk,?_⟩,?_⟩;(have h1:=u6 o (nms.getD i []) (ai l (d - 1).toNat (q+2+3 * i));have h2:=hsm (q+2+3 * i);have h3:=Ae i;omega);(rw [<- hR,lI _ i w o oq,if_pos aq]);done)
 iterate 37 kernel_rfl
 apply qf (beq_eq_false_iff_ne.2 hb20);apply qK;apply zZ (mT [] [52]) id;apply qo;apply qr 1;refine qy (Ks (a:=(w)) (b:=2) kq dq bn bn) ?_ ?_ ?_;apply qr 1;apply qe;apply ag;apply ab;refine zZ (fun _=>[(iE l),(1,nI q),(2,.int .i64 (d)),(6,.ptr 0 0),(8,.ptr 1 0),(9,.int .i64 ((w).tdiv 2)),(10,nI i)]) id ?_ ?_;apply qo;apply qr 1;refine qy (aA (a:=((i:Nat):Int)) (b:=1) kq bn bn) ?_ ?_ ?_;apply qr 1;apply qe;refine ab ⟨(i+1,w.tdiv 2,o),?_,?_,(fg kq kq az (by simp [ax.belO]))⟩
 . try dsimp only
   omega
 . try dsimp only
   first|(refine ⟨⟨by omega,hwd.1,hwd.2⟩,⟨ho5,hnk,?_⟩,?_⟩;(exact x8 hosz);rw [<- hR,lI _ i w o oq,if_neg aq];done)|(refine ⟨⟨by omega,hwd.1,hwd.2⟩,⟨rfl,vl _ _ _ hnk,?_⟩,?_⟩;(have h1:=u6 o (nms.getD i []) (ai l (d - 1).toNat (q+2+3 * i));have h2:=hsm (q+2+3 * i);have h3:=Ae i;omega);(rw [<- hR,lI _ i w o oq,if_pos aq]);done)
 iterate 27 kernel_rfl
 apply qf (decide_eq_false hb19);refine aK 1 kq kq ?_;apply ac;apply ac;apply au;apply ab;apply zZ (mT [] [0,1,2,9,10,47]) id;refine zW 2 (fun _=>[(6,.ptr 0 0)]) (fun _=>[.box (Hx o),.box (Hx o),.arr 5 (o.kids.map Ty.enc) 0]) ?_ ?_;refine xQ [2,0] [(6,.ptr 1 0)] (NT o) dq lX lX lX lX ?_;refine zZ (fun _=>[(6,.ptr 1 0)]) (fun _=>(NT o)) ?_ ?_;refine bq kq ?_;refine gv (l:=[.agg [.int .i64 (o.kind),.str o.name,.int .i64 (o.n),.imm (o.names.map aa.str),.own 0 0 o.kids.length]]) 1 [.arr 5 (o.kids.map Ty.enc) 0] (.inr rfl) kq (Nat.zero_le _) kq ni nA ?_
 . rw [show 4 - i=0 by omega,mq] at hR;rw [<- hR];exact .inl ⟨ho5,rfl,rfl⟩
 iterate 46 kernel_rfl
 all_goals
  first|exact wi (k:=(ah l q 8).tmod 5) (CP oq) oq Pe|exact wi (k:=ah l q 8) (uf oq oq) oq Pe
theorem zX (l:List Int) (q:Nat) (d:Int) (hl:ji l) (hq:(q:Int)+100 * d<=1000000) (hd:0<=d/\d<=2):aE cx 99 [.imm (l.map (.int .i64)),.int .i64 (q:Nat),.int .i64 d] [] (clQ (ai l d.toNat q)):=ym l q d hl hq ⟨hd.1,by omega⟩
end Go.Proofs.YtcpklndelobigaaGreatDoor
