/- Valid of package types, true of the types that Open makes. Conditions: the parts are formed. -/
import Derived.Test.YtcpklndelobigaaGreatDoorCH
set_option linter.all false
namespace Go.Proofs.YtcpklndelobigaaGreatDoor
open Go.Proofs.YtcpklndelobigaaGreatDoor.Abs
set_option maxRecDepth 20000
set_option maxHeartbeats 4000000
def cZ (l:List (List UInt8)):aa:=.imm (l.map .str)
@[simp] theorem PT (k:Nat) (l:List (Int×Bool)):((ak (aa.int .i64) aa.bool l).all fun e=>e.1.bel k && e.2.bel k)=true:=by
 simp [ak,List.all_eq_true]
@[simp] theorem P1 (k:Nat) (l:List (Int×List (List UInt8))):((ak (aa.int .i64) cZ l).all fun e=>e.1.bel k && e.2.bel k)=true:=by
 simp [ak,cZ,List.all_eq_true]
def nc (m:Nat):List (List UInt8):=(bif m.testBit 3 then [[97]] else [])++(bif m.testBit 2 then [[98]] else [])++(bif m.testBit 1 then [[99]] else [])++(bif m.testBit 0 then [[105,100]] else [])
def rn (n:Int):List (List UInt8):=nc (n - 11).toNat
theorem Gv (m:Nat):(nc m).length<=4:=by
 unfold nc;cases m.testBit 3 <;> cases m.testBit 2 <;> cases m.testBit 1 <;> cases m.testBit 0 <;> decide
structure VSt where
 pl:List (Int×Bool)
 rw:List (Int×List (List UInt8))
def cC (s:VSt) (x:Ty):VSt:=if x.kind=6 then ⟨bM x.n true s.pl,s.rw⟩ else if x.kind=5/\x.n≠0 then ⟨s.pl,bM x.n x.names s.rw⟩ else s
def hpV (u:Ty) (s:VSt):ae:=[.box [.int .i64 u.kind,.str u.name,.int .i64 u.n,.imm (u.names.map .str),.imm (u.kids.map Ty.enc)],.box [.bool true],.map (ak (aa.int .i64) aa.bool s.pl),.box [.map 2],.map (ak (aa.int .i64) cZ s.rw),.box [.map 4]]
structure Vq (x:Ty):Prop where
 k:0<=x.kind
 p:af cx 189 [x.v] (.bool true)
 r:af cx 169 [x.v] (.bool true)
 v:x.kind=6->x.n<=10
 w:x.kind=5/\x.n≠0->10<x.n/\x.names=rn x.n
mutual
def Vp:Ty->Prop
 | .mk k x n l ks=>Vq (.mk k x n l ks)/\VpL ks
def VpL:List Ty->Prop
 | []=>True
 | t::l=>Vp t/\VpL l
end
theorem yk {t:Ty} (h:Vp t):Vq t:=by cases t;exact h.1
theorem G7 {t:Ty} (h:Vp t):VpL t.kids:=by cases t;exact h.2
theorem BW:∀ {l:List Ty},VpL l->∀ x∈l,Vp x
 | [],_,x,hx=>by cases hx
 | t::l,h,x,hx=>by
  rcases List.mem_cons.1 hx with rfl|hx
  . exact h.1
  . exact BW h.2 x hx
theorem uN {l:List Ty} (h:VpL l) {k:Nat} (hk:k<l.length):Vp (l.getD k Ty.zero):=by
 rw [List.getD_eq_getElem?_getD,List.getElem?_eq_getElem hk];exact BW h _ (List.getElem_mem hk)
structure VSt.J (s:VSt):Prop where
 p:∀ k b,aC k s.pl=some b->k<=10
 r:∀ k l,aC k s.rw=some l->10<k/\l=rn k
theorem mt {κ α:Type} [DecidableEq κ] (k k':κ) (v:α):∀ l:List (κ×α),aC k (bM k' v l)=if k=k' then some v else aC k l
 | []=>by simp [bM,aC]
 | p::l=>by
  simp only [bM];by_cases e:k'=p.1
  . rw [if_pos e];simp only [aC];by_cases e2:k=k'
    . rw [if_pos e2,if_pos e2]
    . rw [if_neg e2,if_neg e2,if_neg (by rw [<- e];exact e2)]
  . rw [if_neg e];simp only [aC,mt k k' v l];by_cases e2:k=p.1
    . rw [if_pos e2,if_pos e2,if_neg (by rintro rfl;exact e e2)]
    . rw [if_neg e2,if_neg e2]
theorem vU {s:VSt} (h:s.J) {x:Ty} (q:Vq x):(cC s x).J:=by
 unfold cC;split
 . rename_i h6;refine ⟨fun k b hb=>?_,h.r⟩;simp only [mt] at hb;split at hb
   . rename_i e;rw [e];exact q.v h6
   . exact h.p k b hb
 . split
   . rename_i _ h5;refine ⟨h.p,fun k l hl=>?_⟩;simp only [mt] at hl;split at hl
     . rename_i e;cases hl;rw [e];exact q.w h5
     . exact h.r k l hl
   . exact h
theorem NI {s:VSt} (h:s.J) {x:Ty} (q:Vq x) {w:List (List UInt8)} (h5:x.kind=5) (hn:¬ x.n=0) (hw:aC x.n s.rw=some w):(w==x.names)=true:=by
 rw [(h.r _ _ hw).2,<- (q.w ⟨h5,hn⟩).2];simp
theorem L1 {s:VSt} (h:s.J) {k:Int} {w:List (List UInt8)} (hw:aC k s.rw=some w):w.length<1000000000:=by
 rw [(h.r _ _ hw).2];exact Nat.lt_of_le_of_lt (Gv _) dq
mutual
def gD:VSt->Ty->VSt
 | s,.mk k x n l ks=>if k=5 then cC (cc s ks) (.mk k x n l ks) else cc (cC s (.mk k x n l ks)) ks
def cc:VSt->List Ty->VSt
 | s,[]=>s
 | s,t::l=>cc (gD s t) l
end
theorem GT (s:VSt) (t:Ty) (h:t.kind=5):gD s t=cC (cc s t.kids) t:=by cases t;simp only [Ty.kind] at h;simp only [gD,if_pos h,Ty.kids]
theorem GO (s:VSt) (t:Ty) (h:¬ t.kind=5):gD s t=cc (cC s t) t.kids:=by cases t;simp only [Ty.kind] at h;simp only [gD,if_neg h,Ty.kids]
theorem qF (t:Ty):∀ (l:List Ty) (s:VSt),cc s (l++[t])=gD (cc s l) t
 | [],s=>rfl
 | x::l,s=>by simp only [List.cons_append,cc,qF t l]
theorem sq (l:List Ty) (k:Nat) (h:k<l.length):l.take (k+1)=l.take k++[l.getD k Ty.zero]:=by
 rw [List.take_succ_eq_append_getElem h,List.getD_eq_getElem?_getD,List.getElem?_eq_getElem h];rfl
theorem Aq (s:VSt) (l:List Ty) (k:Nat) (h:k<l.length):cc s (l.take (k+1))=gD (cc s (l.take k)) (l.getD k Ty.zero):=by
 rw [sq l k h,qF]
mutual
theorem Kj:∀ (t:Ty) (s:VSt),s.J->Vp t->(gD s t).J
 | .mk k x n l ks,s,hs,ht=>by
  simp only [gD];split
  . exact vU (uH ks s hs ht.2) ht.1
  . exact uH ks _ (vU hs ht.1) ht.2
theorem uH:∀ (l:List Ty) (s:VSt),s.J->VpL l->(cc s l).J
 | [],s,hs,_=>hs
 | t::l,s,hs,ht=>uH l _ (Kj t s hs ht.1) ht.2
end
theorem wG:∀ (l:List Ty) (k:Nat),VpL l->VpL (l.take k)
 | [],k,_=>by simp [VpL]
 | t::l,0,_=>trivial
 | t::l,k+1,h=>⟨h.1,wG l k h.2⟩
theorem Fx {t:Ty} {s:VSt} (k:Nat) (hs:s.J) (ht:Vp t):(cc s (t.kids.take k)).J:=uH _ _ hs (wG _ _ (G7 ht))
noncomputable def Rh:Code:=aF Tryz.f193
abbrev dB :=(aa.int .i64)
abbrev sU (pl:List (Int×Bool)):=(ak dB aa.bool pl)
theorem fN {p:Prop} (h:p:=by simp [bg]):p:=h
theorem zS (t u:Ty) (pl:List (Int×Bool)) (rw:List (Int×List (List UInt8))) (hs:t.sz<100000000) (hq:Vq t) (hJ:VSt.J ⟨pl,rw⟩):aE cx 193 [Ty.v t,.ptr 1 0,.ptr 3 0,.ptr 5 0] [u.bx,.box [.bool true],.map (ak (aa.int .i64) aa.bool pl),.box [.map 2],.map (ak (aa.int .i64) cZ rw),.box [.map 4]] (fun v h=>v=(.tup [])/\h=hpV u (cC ⟨pl,rw⟩ t)):=by
 refine am (cx:=cx) 49 6 [] Tryz.func193 rfl rfl rfl rfl rfl zq ?_;show wpA cx 49 6 (at_ Rh []) _ _ _;refine zZ (fun _=>[(0,Ty.v t),(1,.ptr 1 0),(2,.ptr 3 0),(3,.ptr 5 0)]) (fun _=>[u.bx,.box [.bool true],.map (sU pl),.box [.map 2],.map (ak dB cZ rw),.box [.map 4]]) ?_ ?_;apply zW 1 (mT [(4,.ptr 6 0)] [0]) (mH [] [t.bx]);apply zV 3;refine qP (hq.p) aH aH aH kq ?_;apply zR 2 id id;refine zW 3 (fun _=>[(1,.ptr 1 0),(2,.ptr 3 0),(3,.ptr 5 0),(4,.ptr 6 0),(14,.bool ((t.kind)==6))]) (fun _=>[u.bx,.box [.bool true],.map (sU pl),.box [.map 2],.map (ak dB cZ rw),.box [.map 4],t.bx]) ?_ ?_;by_cases hb1:(t.kind)=6;apply qt (beq_iff_eq.2 hb1);apply qo;apply qr 3;refine qY (cI (o:=2) (ek:=dB) (ev:=aa.bool) (l:=pl) (k:=(t.n)) (x:=true) DK kq JD ty3 rfl kq kq) ?_ ?_ ?_;apply qe;refine cy (l:=[]) (.inl rfl) kq fN fN fN ?_ ?_;refine Eq.trans (b:=[u.bx,.box [.bool true],.map (ak dB aa.bool (bM (t.n) true pl)),.box [.map 2],.map (ak dB cZ rw),.box [.map 4]]) kq ?_
 rotate_left
 . simp [ax.belO,hpV,Ty.v]
 iterate 6 kernel_rfl
 apply qf (beq_eq_false_iff_ne.2 hb1);apply zV 4;by_cases hb2:(t.kind)=5;apply zm [20,21] (beq_iff_eq.2 hb2);refine zR 4 (fun _=>[(1,.ptr 1 0),(3,.ptr 5 0),(4,.ptr 6 0),(25,.bool ((t.n) != 0))]) (fun _=>[u.bx,.box [.bool true],.map (sU pl),.box [.map 2],.map (ak dB cZ rw),.box [.map 4],t.bx]) ?_ ?_;by_cases hb3:(t.n)=0;refine qf (x:=((t.n) != 0)) (bne_eq_false_iff_eq.2 hb3) ?_ ?_;apply qk;refine cy (l:=[]) (.inl rfl) kq fN fN fN ?_ ?_;refine Eq.trans (b:=[u.bx,.box [.bool true],.map (sU pl),.box [.map 2],.map (ak dB cZ rw),.box [.map 4]]) kq ?_
 rotate_left
 . simp [ax.belO,hpV,Ty.v]
 iterate 2 kernel_rfl
 refine qt (x:=((t.n) != 0)) (bne_iff_ne.2 hb3) ?_ ?_;apply zV 3;rcases hm4:aC (t.n) rw with _|x4;refine qy (qb (ok:=true) (o:=4) (ek:=dB) (ev:=cZ) (l:=rw) (k:=(t.n)) DK hm4 kq yp ty3 rfl bf kq) ?_ ?_ ?_;apply zR 5 (mT [(5,.full []),(6,.bool false)] [25]) id;refine zW 12 (fun _=>[(3,.ptr 5 0),(4,.ptr 6 0)]) (fun _=>[u.bx,.box [.bool true],.map (sU pl),.box [.map 2],.map (ak dB cZ rw),.box [.map 4],t.bx]) ?_ ?_;apply qo;apply qr 5;refine qY (cI (o:=4) (ek:=dB) (ev:=cZ) (l:=rw) (k:=(t.n)) (x:=t.names) DK kq yp ty3 rfl kq kq) ?_ ?_ ?_;apply qe;refine cy (l:=[]) (.inl rfl) kq fN fN fN ?_ ?_;refine Eq.trans (b:=[u.bx,.box [.bool true],.map (sU pl),.box [.map 2],.map (ak dB cZ (bM (t.n) t.names rw)),.box [.map 4]]) kq ?_
 rotate_left
 . simp [ax.belO,hpV,Ty.v]
 iterate 9 kernel_rfl
 refine qy (uu (ok:=true) (o:=4) (ek:=dB) (ev:=cZ) (l:=rw) (k:=(t.n)) (x:=x4) DK hm4 kq yp ty3 rfl bf kq) ?_ ?_ ?_;apply zR 5 (mT [(5,.imm (x4.map aa.str)),(6,.bool true)] [25]) id;apply zV 8;refine qP (nU x4 t.names (by first|omega|exact L1 hJ aq)) aH aH aH kq ?_;refine zR 3 (fun _=>[(3,.ptr 5 0),(4,.ptr 6 0)]) (fun _=>[u.bx,.box [.bool (x4==t.names)],.map (sU pl),.box [.map 2],.map (ak dB cZ rw),.box [.map 4],t.bx]) ?_ ?_;apply qo;apply qr 5;refine qY (cI (o:=4) (ek:=dB) (ev:=cZ) (l:=rw) (k:=(t.n)) (x:=t.names) DK kq yp ty3 rfl kq kq) ?_ ?_ ?_;apply qe;refine cy (l:=[]) (.inl rfl) kq fN fN fN ?_ ?_;refine Eq.trans (b:=[u.bx,.box [.bool (x4==t.names)],.map (sU pl),.box [.map 2],.map (ak dB cZ (bM (t.n) t.names rw)),.box [.map 4]]) kq ?_
 rotate_left
 . simp [ax.belO,hpV,Ty.v]
 iterate 14 kernel_rfl
 apply zm [20,21] (beq_eq_false_iff_ne.2 hb2);refine zR 4 (fun _=>[(1,.ptr 1 0),(3,.ptr 5 0),(4,.ptr 6 0),(25,.bool false)]) (fun _=>[u.bx,.box [.bool true],.map (sU pl),.box [.map 2],.map (ak dB cZ rw),.box [.map 4],t.bx]) ?_ ?_;refine fM kq kq ?_;apply qk;refine cy (l:=[]) (.inl rfl) kq fN fN fN ?_ ?_;refine Eq.trans (b:=[u.bx,.box [.bool true],.map (sU pl),.box [.map 2],.map (ak dB cZ rw),.box [.map 4]]) kq ?_
 rotate_left
 . simp [ax.belO,hpV,Ty.v]
 iterate 10 kernel_rfl
 all_goals
  first|(simp [hpV,cC, *];done)|(have e:=NI hJ hq aq aq aq;simp [hpV,cC,e, *])
theorem o4 (t u:Ty) (s:VSt) (hs:t.sz<100000000) (hq:Vq t) (hJ:s.J):aE cx 193 [t.v,.ptr 1 0,.ptr 3 0,.ptr 5 0] (hpV u s) (fun v h=>v=.tup []/\h=hpV u (cC s t)):=zS t u s.pl s.rw hs hq hJ
noncomputable def QN:Code:=aF Tryz.f192
abbrev Hn (s:VSt)(t:Ty)(k:Nat):=(gD (cc s (t.kids.take k)) (t.kids.getD k Ty.zero))
abbrev IY :List aa:=[.ptr 1 0,.ptr 3 0,.ptr 5 0]
theorem i8 {p:Prop} (h:p:=by simp [ax.belO,hpV,Ty.v]):p:=h
theorem He {p:Prop} (h:p:=by first|exact hm|exact vU hm (yk hp)|exact Fx _ hm hp|exact Fx _ (vU hm (yk hp)) hp):p:=h
theorem OH {p:Prop} (h:p:=by exact congrArg (fun q=>hpV u q++[.box [.int .i64 t.kind,.str t.name,.int .i64 t.n,.imm (t.names.map .str),.imm (t.kids.map Ty.enc)]]) (Aq _ t.kids k oq).symm):p:=h
theorem lQ {p:Prop} (h:p:=by first|omega):p:=h
theorem kJ {p:Prop} (h:p:=by simp [ax.belO]):p:=h
theorem xt (t u:Ty) (s:VSt) (hs:t.sz<100000000) (hp:Vp t) (hm:s.J):aE cx 192 [Ty.v t,.fn (.func 193) [] [.ptr 1 0,.ptr 3 0,.ptr 5 0]] (hpV u s) (fun v h=>v=(.tup [])/\h=hpV u (gD s t)):=by
 induction hN:t.sz using Nat.strongRecOn generalizing t u s with|_ N ih =>
 have ihV:∀ (t' u:Ty) (s:VSt),t'.sz<t.sz->t'.sz<100000000->Vp t'->s.J->aE cx 192 [t'.v,.fn (.func 193) [] [.ptr 1 0,.ptr 3 0,.ptr 5 0]] (hpV u s) (fun v h=>v=.tup []/\h=hpV u (gD s t')):=fun t' u s h1 h2 h3 h4=>ih _ (by rw [<- hN];exact h1) t' u s h2 h3 h4 rfl
 have hz2:=iT t;refine am (cx:=cx) 29 6 [] Tryz.func192 rfl rfl rfl rfl rfl zq ?_;show wpA cx 29 6 (at_ QN []) _ _ _;refine zZ (fun _=>[(0,Ty.v t),(1,.fn (.func 193) [] IY)]) (fun _=>[u.bx,.box [.bool true],.map (ak dB aa.bool s.pl),.box [.map 2],.map (ak dB cZ s.rw),.box [.map 4]]) ?_ ?_;apply zW 1 (mT [(2,.ptr 6 0)] [0]) (mH [] [t.bx]);apply ao;apply zW 3 (mU [(8,.bool ((t.kind) != 5))]) id;by_cases hb1:(t.kind)=5;refine qf (x:=((t.kind) != 5)) (bne_eq_false_iff_eq.2 hb1) ?_ ?_;apply qK;apply zZ (mT [] [8]) id;apply ao;apply zV 2;refine qy (aw (l:=t.kids) (enc:=Ty.enc) kq dC) ?_ ?_ ?_;apply zR 1 (mU [(13,.imm (t.kids.map Ty.enc)),(14,nI t.kids.length),(15,.int .i64 0)]) id;apply qB 0;refine aU (σ:=Nat) (fun k=>[(1,.fn (.func 193) [] IY),(2,.ptr 6 0),(13,.imm (t.kids.map Ty.enc)),(14,.int .i64 ((t.kids.length:Nat):Int)),(15,nI k)]) (fun k=>[u.bx,.box [.bool true],.map (ak dB aa.bool (cc s (t.kids.take k)).pl),.box [.map 2],.map (ak dB cZ (cc s (t.kids.take k)).rw),.box [.map 4],t.bx]) (fun k=>k<=t.kids.length) (fun k=>t.kids.length - k) 0 kq (by exact Nat.zero_le _) (fg kq kq az kJ) ?_;rintro k hk;apply zW 1 (mU [(16,.bool (decide (((k:Nat):Int)<((t.kids.length:Nat):Int))))]) id;apply ao;by_cases hb2:((k:Nat):Int)<((t.kids.length:Nat):Int);apply qt (decide_eq_true hb2);apply qK;apply zZ (mT [] [16]) id;apply ao;apply qB 1;apply zO;refine qy ((av (k:=.i64) (l:=t.kids) (enc:=Ty.enc) (i:=((k:Nat):Int)) Ty.zero kq dC gF dN lQ lQ).trans (congrArg (fun cs=>some (aa.pimm cs 0,_)) (db (t.kids.getD k Ty.zero)))) ?_ ?_ ?_;apply zR 3 (mU [(5,.ptr 7 0)]) (mH [] [(t.kids.getD k Ty.zero).bx]);apply qo;apply qr 2;refine qA (hs:=[u.bx,.box [.bool true],.map (ak dB aa.bool (cc s (t.kids.take k)).pl),.box [.map 2],.map (ak dB cZ (cc s (t.kids.take k)).rw),.box [.map 4]]) (hs':=[u.bx,.box [.bool true],.map (ak dB aa.bool (Hn s t k).pl),.box [.map 2],.map (ak dB cZ (Hn s t k).rw),.box [.map 4]]) (ihV _ _ _ (fv t k oq) (Nat.lt_trans (fv t k oq) hs) (uN (G7 hp) oq) He) i8 i8 rfl i8 i8 kq ?_;apply qe;apply ag;apply ab;refine zZ (fun _=>[(1,.fn (.func 193) [] IY),(2,.ptr 6 0),(13,.imm (t.kids.map Ty.enc)),(14,nI t.kids.length),(15,nI k)]) (fun _=>[u.bx,.box [.bool true],.map (ak dB aa.bool (Hn s t k).pl),.box [.map 2],.map (ak dB cZ (Hn s t k).rw),.box [.map 4],t.bx,(t.kids.getD k Ty.zero).bx]) ?_ ?_;apply qo;refine qy (aA (a:=((k:Nat):Int)) (b:=1) kq lQ lQ) ?_ ?_ ?_;apply qr 1;apply qe;refine ab ⟨k+1,?_,?_,(fg kq (Eq.trans (b:=[u.bx,.box [.bool true],.map (ak (aa.int .i64) aa.bool (gD (cc s (t.kids.take k)) (t.kids.getD k Ty.zero)).pl),.box [.map 2],.map (ak (aa.int .i64) cZ (gD (cc s (t.kids.take k)) (t.kids.getD k Ty.zero)).rw),.box [.map 4],t.bx]) kq OH) az kJ)⟩
 . omega
 . omega
 iterate 19 kernel_rfl
 apply qf (decide_eq_false hb2);refine aK 0 kq kq ?_;apply ac;apply ac;apply au;apply ab;apply zZ (mT [] [13,14,15,16]) id;refine zW 3 (fun _=>[(1,.fn (.func 193) [] IY),(2,.ptr 6 0),(25,.bool ((t.kind)==5))]) (fun _=>[u.bx,.box [.bool true],.map (ak dB aa.bool (cc s (t.kids.take k)).pl),.box [.map 2],.map (ak dB cZ (cc s (t.kids.take k)).rw),.box [.map 4],t.bx]) ?_ ?_;apply qt (beq_iff_eq.2 hb1);apply qo;apply qr 2;refine qA (hs:=[u.bx,.box [.bool true],.map (ak (aa.int .i64) aa.bool (cc s (t.kids.take k)).pl),.box [.map 2],.map (ak (aa.int .i64) cZ (cc s (t.kids.take k)).rw),.box [.map 4]]) (hs':=[u.bx,.box [.bool true],.map (ak (aa.int .i64) aa.bool (cC (cc s (t.kids.take k)) t).pl),.box [.map 2],.map (ak (aa.int .i64) cZ (cC (cc s (t.kids.take k)) t).rw),.box [.map 4]]) (o4 t _ _ hs (yk hp) He) i8 i8 rfl i8 i8 kq ?_;apply qe;refine cy (l:=[]) (.inl rfl) kq fN fN fN ?_ ?_;refine Eq.trans (b:=[u.bx,.box [.bool true],.map (ak (aa.int .i64) aa.bool (cC (cc s (t.kids.take k)) t).pl),.box [.map 2],.map (ak (aa.int .i64) cZ (cC (cc s (t.kids.take k)) t).rw),.box [.map 4]]) kq ?_
 rotate_left
 . simp [ax.belO,hpV,Ty.v]
 iterate 19 kernel_rfl
 refine qt (x:=((t.kind) != 5)) (bne_iff_ne.2 hb1) ?_ ?_;apply qo;apply qr 2;refine qA (hs:=[u.bx,.box [.bool true],.map (ak (aa.int .i64) aa.bool s.pl),.box [.map 2],.map (ak (aa.int .i64) cZ s.rw),.box [.map 4]]) (hs':=[u.bx,.box [.bool true],.map (ak (aa.int .i64) aa.bool (cC s t).pl),.box [.map 2],.map (ak (aa.int .i64) cZ (cC s t).rw),.box [.map 4]]) (o4 t _ _ hs (yk hp) He) i8 i8 rfl i8 i8 kq ?_;refine qN [(1,.fn (.func 193) [] [.ptr 1 0,.ptr 3 0,.ptr 5 0]),(2,.ptr 6 0)] [u.bx,.box [.bool true],.map (ak (aa.int .i64) aa.bool (cC s t).pl),.box [.map 2],.map (ak (aa.int .i64) cZ (cC s t).rw),.box [.map 4],t.bx] ?_ ?_;apply ao;apply zV 2;refine qy (aw (l:=t.kids) (enc:=Ty.enc) kq dC) ?_ ?_ ?_;refine zR 1 (fun _=>[(1,.fn (.func 193) [] [.ptr 1 0,.ptr 3 0,.ptr 5 0]),(2,.ptr 6 0),(13,.imm (t.kids.map Ty.enc)),(14,nI t.kids.length),(15,.int .i64 0)]) (fun _=>[u.bx,.box [.bool true],.map (ak (aa.int .i64) aa.bool (cC s t).pl),.box [.map 2],.map (ak (aa.int .i64) cZ (cC s t).rw),.box [.map 4],t.bx]) ?_ ?_;apply qB 0;refine aU (σ:=Nat) (fun k=>[(1,.fn (.func 193) [] [.ptr 1 0,.ptr 3 0,.ptr 5 0]),(2,.ptr 6 0),(13,.imm (t.kids.map Ty.enc)),(14,.int .i64 ((t.kids.length:Nat):Int)),(15,.int .i64 ((k:Nat):Int))]) (fun k=>[u.bx,.box [.bool true],.map (ak (aa.int .i64) aa.bool (cc (cC s t) (t.kids.take k)).pl),.box [.map 2],.map (ak (aa.int .i64) cZ (cc (cC s t) (t.kids.take k)).rw),.box [.map 4],t.bx]) (fun k=>k<=t.kids.length) (fun k=>t.kids.length - k) 0 kq (by exact Nat.zero_le _) (fg kq kq az kJ) ?_;rintro k hk;apply zW 1 (mU [(16,.bool (decide (((k:Nat):Int)<((t.kids.length:Nat):Int))))]) id;apply ao;by_cases hb4:((k:Nat):Int)<((t.kids.length:Nat):Int);apply qt (decide_eq_true hb4);apply qK;apply zZ (mT [] [16]) id;apply ao;apply qB 1;apply zO;refine qy ((av (k:=.i64) (l:=t.kids) (enc:=Ty.enc) (i:=((k:Nat):Int)) Ty.zero kq dC gF dN lQ lQ).trans (congrArg (fun cs=>some (aa.pimm cs 0,_)) (db (t.kids.getD k Ty.zero)))) ?_ ?_ ?_;apply zR 3 (mU [(5,.ptr 7 0)]) (mH [] [(t.kids.getD k Ty.zero).bx]);apply qo;apply qr 2;refine qA (hs:=[u.bx,.box [.bool true],.map (ak (aa.int .i64) aa.bool (cc (cC s t) (t.kids.take k)).pl),.box [.map 2],.map (ak (aa.int .i64) cZ (cc (cC s t) (t.kids.take k)).rw),.box [.map 4]]) (hs':=[u.bx,.box [.bool true],.map (ak (aa.int .i64) aa.bool (gD (cc (cC s t) (t.kids.take k)) (t.kids.getD k Ty.zero)).pl),.box [.map 2],.map (ak (aa.int .i64) cZ (gD (cc (cC s t) (t.kids.take k)) (t.kids.getD k Ty.zero)).rw),.box [.map 4]]) (ihV _ _ _ (fv t k oq) (Nat.lt_trans (fv t k oq) hs) (uN (G7 hp) oq) He) i8 i8 rfl i8 i8 kq ?_;apply qe;apply ag;apply ab;refine zZ (fun _=>[(1,.fn (.func 193) [] [.ptr 1 0,.ptr 3 0,.ptr 5 0]),(2,.ptr 6 0),(13,.imm (t.kids.map Ty.enc)),(14,nI t.kids.length),(15,nI k)]) (fun _=>[u.bx,.box [.bool true],.map (ak (aa.int .i64) aa.bool (gD (cc (cC s t) (t.kids.take k)) (t.kids.getD k Ty.zero)).pl),.box [.map 2],.map (ak (aa.int .i64) cZ (gD (cc (cC s t) (t.kids.take k)) (t.kids.getD k Ty.zero)).rw),.box [.map 4],t.bx,(t.kids.getD k Ty.zero).bx]) ?_ ?_;apply qo;refine qy (aA (a:=((k:Nat):Int)) (b:=1) kq lQ lQ) ?_ ?_ ?_;apply qr 1;apply qe;refine ab ⟨k+1,?_,?_,(fg kq (Eq.trans (b:=[u.bx,.box [.bool true],.map (ak (aa.int .i64) aa.bool (gD (cc (cC s t) (t.kids.take k)) (t.kids.getD k Ty.zero)).pl),.box [.map 2],.map (ak (aa.int .i64) cZ (gD (cc (cC s t) (t.kids.take k)) (t.kids.getD k Ty.zero)).rw),.box [.map 4],t.bx]) kq OH) az kJ)⟩
 . omega
 . omega
 iterate 19 kernel_rfl
 apply qf (decide_eq_false hb4);refine aK 0 kq kq ?_;apply ac;apply ac;apply au;apply ab;apply zZ (mT [] [13,14,15,16]) id;refine zW 3 (fun _=>[(1,.fn (.func 193) [] [.ptr 1 0,.ptr 3 0,.ptr 5 0]),(2,.ptr 6 0),(25,.bool ((t.kind)==5))]) (fun _=>[u.bx,.box [.bool true],.map (ak (aa.int .i64) aa.bool (cc (cC s t) (t.kids.take k)).pl),.box [.map 2],.map (ak (aa.int .i64) cZ (cc (cC s t) (t.kids.take k)).rw),.box [.map 4],t.bx]) ?_ ?_;apply qf (beq_eq_false_iff_ne.2 hb1);apply qk;refine cy (l:=[]) (.inl rfl) kq fN fN fN ?_ ?_;refine Eq.trans (b:=[u.bx,.box [.bool true],.map (ak (aa.int .i64) aa.bool (cc (cC s t) (t.kids.take k)).pl),.box [.map 2],.map (ak (aa.int .i64) cZ (cc (cC s t) (t.kids.take k)).rw),.box [.map 4]]) kq ?_
 rotate_left
 . simp [ax.belO,hpV,Ty.v]
 iterate 22 kernel_rfl
 all_goals
  refine congrArg (hpV u) ?_
  first|rw [GO s t aq,List.take_of_length_le oq]|rw [GT s t aq,List.take_of_length_le oq]
def VSt.init:VSt:=⟨[],[]⟩
theorem Eh:VSt.init.J:=⟨fun k b h=>by simp [VSt.init,aC] at h,fun k l h=>by simp [VSt.init,aC] at h⟩
theorem Cn (lf:List Nat) (i:Nat) (hi:i∈lf):(lf.filter (fun j=>!(Nat.beq j i))).length<lf.length:=by
 rcases Nat.lt_or_ge (lf.filter (fun j=>!(Nat.beq j i))).length lf.length with h|h
 . exact h
 . have he:lf.filter (fun j=>!(Nat.beq j i))=lf:=List.Sublist.eq_of_length_le List.filter_sublist h;rw [<- he] at hi;have:=(List.mem_filter.1 hi).2;rw [Nat.beq_refl] at this;cases this
theorem yx {α:Type}:∀ (l:List (Int×α)) (i:Nat) (d:Int×α),i<l.length->(aC (l.getD i d).1 l).isSome=true
 | [],i,d,h=>absurd h (Nat.not_lt_zero i)
 | p::l,0,d,_=>by simp [aC]
 | p::l,i+1,d,h=>by
  simp only [List.getD_cons_succ,aC];split
  . rfl
  . exact yx l i d (Nat.lt_of_succ_lt_succ h)
theorem HT {s:VSt} (h:s.J) {i:Nat} {d:Int×List (List UInt8)} (hi:i<s.rw.length):aC (s.rw.getD i d).1 s.pl=none:=by
 cases hm:aC (s.rw.getD i d).1 s.pl with
 | none=>rfl
 | some b =>
  exfalso;have h1:=h.p _ _ hm;have h2:=yx s.rw i d hi;rw [Option.isSome_iff_exists] at h2;obtain ⟨w,hw⟩:=h2;have h3:=(h.r _ _ hw).1;omega
noncomputable def Qz:Code:=aF Tryz.f145
abbrev vJ (t:Ty):=(gD VSt.init t)
abbrev Jg (t:Ty):=(ak dB aa.bool (vJ t).pl)
abbrev Hu (t:Ty):=(ak dB cZ (vJ t).rw)
theorem li (t:Ty) (hs:t.sz<100000000) (hp:Vp t):af cx 145 [Ty.v t] (.bool true):=by
 have hJ:=Kj t _ Eh hp;refine am (cx:=cx) 26 0 [(ResultVar.tmp 2)] Tryz.func145 rfl rfl rfl rfl rfl zq ?_;show wpA cx 26 0 (at_ Qz []) _ _ _;refine zZ (fun _=>[(0,Ty.v t)]) (fun _=>[]) ?_ ?_;apply zW 2 (mT [(1,.ptr 0 0)] [0]) (mH [] [t.bx]);apply zW 2 (mU [(3,.ptr 1 0)]) (mH [] [.box [.bool true]]);apply zW 3 (mU [(4,.ptr 3 0)]) (mH [] [.map (ak dB aa.bool ([]:List (Int×Bool))),.box [.map 2]]);apply zW 3 (mU [(5,.ptr 5 0)]) (mH [] [.map (ak dB cZ ([]:List (Int×List (List UInt8)))),.box [.map 4]]);apply zV 2;refine qA (xt t t VSt.init oq hp Eh) i8 i8 rfl i8 i8 kq ?_;apply zN (mT [] [1]) (mO [(2,.map (Jg t)),(4,.map (Hu t))]);apply ao;apply zV 1;refine Fq (ek:=dB) (ev:=cZ) (l:=(vJ t).rw) (m:=4) kq kq kq yp kq ?_;apply zN (mT [(13,.itr 6)] [5]) (mH [] [.iter 4 ((List.range (vJ t).rw.length),none)]);apply qB 0;refine aU (σ:=(List Nat×Option Nat)) (fun ⟨lf,la⟩=>[(3,.ptr 1 0),(4,.ptr 3 0),(13,.itr 6)]) (fun ⟨lf,la⟩=>[t.bx,.box [.bool true],.map (Jg t),.box [.map 2],.map (Hu t),.box [.map 4],.iter 4 (lf,la)]) (fun ⟨lf,la⟩=>True) (fun ⟨lf,la⟩=>lf.length) (List.range (gD VSt.init t).rw.length,none) kq (by trivial) (fg kq kq az kJ) ?_;rintro ⟨lf,la⟩ _;refine zZ (fun _=>[(3,.ptr 1 0),(4,.ptr 3 0),(13,.itr 6)]) (fun _=>[t.bx,.box [.bool true],.map (Jg t),.box [.map 2],.map (Hu t),.box [.map 4],.iter 4 (lf,la)]) ?_ ?_;apply zO;refine FT (ek:=dB) (ev:=cZ) (l:=(vJ t).rw) (o:=6) (m:=4) (lf:=lf) (la:=la) ((0:Int),([]:List (List UInt8))) kq kq kq kq kq ?_ ?_;intro hli1;apply zR 1 (mU [(15,.bool false)]) id;apply ao;refine fM kq kq ?_;refine aK 0 kq kq ?_;apply ac;apply ac;apply au;apply ab;refine zZ (fun _=>[(3,.ptr 1 0)]) (fun _=>[t.bx,.box [.bool true],.map (Jg t),.box [.map 2],.map (Hu t),.box [.map 4],.iter 4 (lf,la)]) ?_ ?_;apply zV 2;apply qT;refine aJ (b:=true) (.inr rfl) kq ?_
 . rfl
 iterate 5 kernel_rfl
 intro i1 hii1 hlti1;refine zR 1 (mU [(15,.bool true)]) (mO [(6,.iter 4 ((lf.filter (fun j=>!(Nat.beq j i1))),(some i1)))]) ?_ ?_;apply ao;refine cJ kq kq ?_;apply qK;apply zZ (mT [] [15]) id;apply qB 1;apply zO;refine BZ (ek:=dB) (ev:=cZ) (l:=(vJ t).rw) (o:=6) (m:=4) (i:=i1) (lf:=(lf.filter (fun j=>!(Nat.beq j i1)))) ((0:Int),([]:List (List UInt8))) kq kq kq kq kq aq ?_;apply zR 2 (mU [(6,.int .i64 (((vJ t).rw.getD i1 ((0:Int),([]:List (List UInt8)))).1))]) id;apply qo;apply qr 4;rcases hm2:aC (((gD VSt.init t).rw.getD i1 ((0:Int),([]:List (List UInt8)))).1) (gD VSt.init t).pl with _|x2;refine qy (qb (ok:=false) (o:=2) (ek:=dB) (ev:=aa.bool) (l:=(vJ t).pl) (k:=(((vJ t).rw.getD i1 ((0:Int),([]:List (List UInt8)))).1)) DK hm2 kq JD ty3 rfl ty4 kq) ?_ ?_ ?_;apply qr 3;apply qe;apply ag;refine ab ⟨((lf.filter (fun j=>!(Nat.beq j i1))),(some i1)),?_,?_,(fg kq kq az kJ)⟩
 . try dsimp only
   exact Cn lf _ aq
 . try dsimp only
   all_goals trivial
 iterate 4 kernel_rfl
 . exact absurd ((hm2).symm.trans (HT hJ aq)) zq
 iterate 24 kernel_rfl
end Go.Proofs.YtcpklndelobigaaGreatDoor
