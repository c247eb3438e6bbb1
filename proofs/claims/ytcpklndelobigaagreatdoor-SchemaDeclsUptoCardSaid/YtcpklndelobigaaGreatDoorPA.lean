/- A part of the proof: plain lemmas and walks. No condition. -/
import Derived.Test.YtcpklndelobigaaGreatDoorCF
set_option linter.all false
namespace Go.Proofs.YtcpklndelobigaaGreatDoor
open Go.Proofs.YtcpklndelobigaaGreatDoor.Abs
set_option maxRecDepth 20000
set_option maxHeartbeats 4000000
def dv (l:List (List UInt8)):aa:=.imm (l.map .str)
@[simp] theorem VM (k:Nat) (l:List (Int×Bool)):((ay c4 aa.bool l).all fun e=>e.1.bel k && e.2.bel k)=true:=by
 simp [ay,List.all_eq_true]
@[simp] theorem V0 (k:Nat) (l:List (Int×List ej)):((ay c4 dv l).all fun e=>e.1.bel k && e.2.bel k)=true:=by
 simp [ay,dv,List.all_eq_true]
def oN (m:Nat):List (List UInt8):=(bif m.testBit 3 then [[97]] else [])++(bif m.testBit 2 then [[98]] else [])++(bif m.testBit 1 then [[99]] else [])++(bif m.testBit 0 then [[105,100]] else [])
def rn (n:Int):List (List UInt8):=oN (n - 11).toNat
theorem JD (m:Nat):(oN m).length<=4:=by
 unfold oN;cases m.testBit 3 <;> cases m.testBit 2 <;> cases m.testBit 1 <;> cases m.testBit 0 <;> decide
structure VSt where
 pl:List (Int×Bool)
 rw:List (Int×List (List UInt8))
def eu (s:VSt) (x:Ty):VSt:=if x.kind=6 then ⟨bJ x.n true s.pl,s.rw⟩ else if x.kind=5/\x.n≠0 then ⟨s.pl,bJ x.n x.names s.rw⟩ else s
def hpV (u:Ty) (s:VSt):af:=[.box [.int .i64 u.kind,.str u.name,.int .i64 u.n,.imm (u.names.map .str),.imm (u.kids.map Ty.enc)],.box [.bool true],.map (ay (aa.int .i64) aa.bool s.pl),.box [.map 2],.map (ay (aa.int .i64) dv s.rw),.box [.map 4]]
structure Vq (x:Ty):Prop where
 k:0<=x.kind
 p:ae cx 189 [x.v] (.bool true)
 r:ae cx 169 [x.v] (.bool true)
 v:x.kind=6->x.n<=10
 w:x.kind=5/\x.n≠0->10<x.n/\x.names=rn x.n
mutual
def Vp:Ty->Prop
 | .mk k x n l ks=>Vq (.mk k x n l ks)/\VpL ks
def VpL:List Ty->Prop
 | []=>True
 | t::l=>Vp t/\VpL l
end
theorem tY {t:Ty} (h:Vp t):Vq t:=by cases t;exact h.1
theorem J1 {t:Ty} (h:Vp t):VpL t.kids:=by cases t;exact h.2
theorem Dj:∀ {l:List Ty},VpL l->∀ x∈l,Vp x
 | [],_,x,hx=>by cases hx
 | t::l,h,x,hx=>by
  rcases List.mem_cons.1 hx with rfl|hx
  . exact h.1
  . exact Dj h.2 x hx
theorem xz {l:List Ty} (h:VpL l) {k:Nat} (hk:k<l.length):Vp (l.getD k Ty.zero):=by
 rw [List.getD_eq_getElem?_getD,List.getElem?_eq_getElem hk];exact Dj h _ (List.getElem_mem hk)
structure VSt.J (s:VSt):Prop where
 p:∀ k b,aL k s.pl=some b->k<=10
 r:∀ k l,aL k s.rw=some l->10<k/\l=rn k
theorem nx {κ α:Type} [DecidableEq κ] (k k':κ) (v:α):∀ l:List (κ×α),aL k (bJ k' v l)=if k=k' then some v else aL k l
 | []=>by simp [bJ,aL]
 | p::l=>by
  simp only [bJ];by_cases e:k'=p.1
  . rw [if_pos e];simp only [aL];by_cases e2:k=k'
    . rw [if_pos e2,if_pos e2]
    . rw [if_neg e2,if_neg e2,if_neg (by rw [<- e];exact e2)]
  . rw [if_neg e];simp only [aL,nx k k' v l];by_cases e2:k=p.1
    . rw [if_pos e2,if_pos e2,if_neg (by rintro rfl;exact e e2)]
    . rw [if_neg e2,if_neg e2]
theorem xX {s:VSt} (h:s.J) {x:Ty} (q:Vq x):(eu s x).J:=by
 unfold eu;split
 . rename_i h6;refine ⟨fun k b hb=>?_,h.r⟩;simp only [nx] at hb;split at hb
   . rename_i e;rw [e];exact q.v h6
   . exact h.p k b hb
 . split
   . rename_i _ h5;refine ⟨h.p,fun k l hl=>?_⟩;simp only [nx] at hl;split at hl
     . rename_i e;cases hl;rw [e];exact q.w h5
     . exact h.r k l hl
   . exact h
theorem Tw {s:VSt} (h:s.J) {x:Ty} (q:Vq x) {w:List ej} (h5:x.kind=5) (hn:¬ x.n=0) (hw:aL x.n s.rw=some w):(w==x.names)=true:=by
 rw [(h.r _ _ hw).2,<- (q.w ⟨h5,hn⟩).2];simp
theorem P7 {s:VSt} (h:s.J) {k:Int} {w:List ej} (hw:aL k s.rw=some w):w.length<1000000000:=by
 rw [(h.r _ _ hw).2];exact Nat.lt_of_le_of_lt (JD _) dq
mutual
def kA:VSt->Ty->VSt
 | s,.mk k x n l ks=>if k=5 then eu (dg s ks) (.mk k x n l ks) else dg (eu s (.mk k x n l ks)) ks
def dg:VSt->List Ty->VSt
 | s,[]=>s
 | s,t::l=>dg (kA s t) l
end
theorem Js (s:VSt) (t:Ty) (h:t.kind=5):kA s t=eu (dg s t.kids) t:=by cases t;simp only [Ty.kind] at h;simp only [kA,if_pos h,Ty.kids]
theorem Jb (s:VSt) (t:Ty) (h:¬ t.kind=5):kA s t=dg (eu s t) t.kids:=by cases t;simp only [Ty.kind] at h;simp only [kA,if_neg h,Ty.kids]
theorem sM (t:Ty):∀ (l:List Ty) (s:VSt),dg s (l++[t])=kA (dg s l) t
 | [],s=>rfl
 | x::l,s=>by simp only [List.cons_append,dg,sM t l]
theorem ud (l:List Ty) (k:Nat) (h:k<l.length):l.take (k+1)=l.take k++[l.getD k Ty.zero]:=by
 rw [List.take_succ_eq_append_getElem h,List.getD_eq_getElem?_getD,List.getElem?_eq_getElem h];rfl
theorem CY (s:VSt) (l:List Ty) (k:Nat) (h:k<l.length):dg s (l.take (k+1))=kA (dg s (l.take k)) (l.getD k Ty.zero):=by
 rw [ud l k h,sM]
mutual
theorem PE:∀ (t:Ty) (s:VSt),s.J->Vp t->(kA s t).J
 | .mk k x n l ks,s,hs,ht=>by
  simp only [kA];split
  . exact xX (x8 ks s hs ht.2) ht.1
  . exact x8 ks _ (xX hs ht.1) ht.2
theorem x8:∀ (l:List Ty) (s:VSt),s.J->VpL l->(dg s l).J
 | [],s,hs,_=>hs
 | t::l,s,hs,ht=>x8 l _ (PE t s hs ht.1) ht.2
end
theorem zK:∀ (l:List Ty) (k:Nat),VpL l->VpL (l.take k)
 | [],k,_=>by simp [VpL]
 | t::l,0,_=>trivial
 | t::l,k+1,h=>⟨h.1,zK l k h.2⟩
theorem Hp {t:Ty} {s:VSt} (k:Nat) (hs:s.J) (ht:Vp t):(dg s (t.kids.take k)).J:=x8 _ _ hs (zK _ _ (J1 ht))
abbrev cX :=(aa.int .i64)
abbrev uM (pl:List (Int×Bool)):=(ay cX aa.bool pl)
theorem gp {p:Prop} (h:p:=by simp [aZ]):p:=h
abbrev eL :List aa:=[.bool true]
theorem B7 (t u:Ty) (pl:List (Int×Bool)) (rw:List (Int×List ej)) (hs:t.sz<100000000) (hq:Vq t) (hJ:VSt.J ⟨pl,rw⟩):av cx 193 [Ty.v t,.ptr 1 0,.ptr 3 0,.ptr 5 0] [u.bx,.box eL,.map (ay c4 aa.bool pl),.box [.map 2],.map (ay c4 dv rw),.box [.map 4]] (fun v h=>v=(.tup [])/\h=hpV u (eu ⟨pl,rw⟩ t)):=by
 refine fI 49 6 [] Tryz.func193 kq ?_;refine zZ (fun _=>[(0,Ty.v t),(1,.ptr 1 0),(2,.ptr 3 0),(3,.ptr 5 0)]) (fun _=>[u.bx,.box eL,.map (uM pl),.box [.map 2],.map (ay cX dv rw),.box [.map 4]]) ?_ ?_;apply zW 1 (mT [(4,.ptr 6 0)] [0]) (mH [] [t.bx]);apply zV 3;refine qP (hq.p) aG aG aG kq ?_;apply zR 2 id id;refine zW 3 (fun _=>[(1,.ptr 1 0),(2,.ptr 3 0),(3,.ptr 5 0),(4,.ptr 6 0),(14,.bool ((t.kind)==6))]) (fun _=>[u.bx,.box eL,.map (uM pl),.box [.map 2],.map (ay cX dv rw),.box [.map 4],t.bx]) ?_ ?_;by_cases hb1:(t.kind)=6;apply qt (beq_iff_eq.2 hb1);apply qo;apply qr 3;refine qY (c5 (o:=2) (ek:=cX) (ev:=aa.bool) (l:=pl) (k:=(t.n)) (x:=true) E4 kq PF ty3 rfl kq kq) ?_ ?_ ?_;apply qe;refine aO (l:=[]) (.inl rfl) kq gp gp gp ?_ ?_;refine Eq.trans (b:=[u.bx,.box eL,.map (ay cX aa.bool (bJ (t.n) true pl)),.box [.map 2],.map (ay cX dv rw),.box [.map 4]]) kq ?_
 rotate_left
 . simp [am.belO,hpV,Ty.v]
 iterate 6 kernel_rfl
 apply qf (beq_eq_false_iff_ne.2 hb1);apply zV 4;by_cases hb2:(t.kind)=5;refine zm [20,21] (beq_iff_eq.2 hb2) ?_ ?_;refine zR 4 (fun _=>[(1,.ptr 1 0),(3,.ptr 5 0),(4,.ptr 6 0),(25,.bool ((t.n) != 0))]) (fun _=>[u.bx,.box eL,.map (uM pl),.box [.map 2],.map (ay cX dv rw),.box [.map 4],t.bx]) ?_ ?_;by_cases hb3:(t.n)=0;refine qf (x:=((t.n) != 0)) (bne_eq_false_iff_eq.2 hb3) ?_ ?_;refine qk ?_ ?_;refine aO (l:=[]) (.inl rfl) kq gp gp gp ?_ ?_;refine Eq.trans (b:=[u.bx,.box eL,.map (uM pl),.box [.map 2],.map (ay cX dv rw),.box [.map 4]]) kq ?_
 rotate_left
 . simp [am.belO,hpV,Ty.v]
 iterate 2 kernel_rfl
 refine qt (x:=((t.n) != 0)) (bne_iff_ne.2 hb3) ?_ ?_;apply zV 3;rcases hm4:aL (t.n) rw with _|x4;refine qy (sh (ok:=true) (o:=4) (ek:=cX) (ev:=dv) (l:=rw) (k:=(t.n)) E4 hm4 kq Aw ty3 rfl a6 kq) ?_ ?_ ?_;apply zR 5 (mT [(5,.full []),(6,.bool false)] [25]) id;refine zW 12 (fun _=>[(3,.ptr 5 0),(4,.ptr 6 0)]) (fun _=>[u.bx,.box eL,.map (uM pl),.box [.map 2],.map (ay cX dv rw),.box [.map 4],t.bx]) ?_ ?_;apply qo;apply qr 5;refine qY (c5 (o:=4) (ek:=cX) (ev:=dv) (l:=rw) (k:=(t.n)) (x:=t.names) E4 kq Aw ty3 rfl kq kq) ?_ ?_ ?_;apply qe;refine aO (l:=[]) (.inl rfl) kq gp gp gp ?_ ?_;refine Eq.trans (b:=[u.bx,.box eL,.map (uM pl),.box [.map 2],.map (ay cX dv (bJ (t.n) t.names rw)),.box [.map 4]]) kq ?_
 rotate_left
 . simp [am.belO,hpV,Ty.v]
 iterate 9 kernel_rfl
 refine qy (xf (ok:=true) (o:=4) (ek:=cX) (ev:=dv) (l:=rw) (k:=(t.n)) (x:=x4) E4 hm4 kq Aw ty3 rfl a6 kq) ?_ ?_ ?_;apply zR 5 (mT [(5,.imm (x4.map aa.str)),(6,.bool true)] [25]) id;apply zV 8;refine qP (fF x4 t.names (by first|omega|exact P7 hJ aq)) aG aG aG kq ?_;refine zR 3 (fun _=>[(3,.ptr 5 0),(4,.ptr 6 0)]) (fun _=>[u.bx,.box [.bool (x4==t.names)],.map (uM pl),.box [.map 2],.map (ay cX dv rw),.box [.map 4],t.bx]) ?_ ?_;apply qo;apply qr 5;refine qY (c5 (o:=4) (ek:=cX) (ev:=dv) (l:=rw) (k:=(t.n)) (x:=t.names) E4 kq Aw ty3 rfl kq kq) ?_ ?_ ?_;apply qe;refine aO (l:=[]) (.inl rfl) kq gp gp gp ?_ ?_;refine Eq.trans (b:=[u.bx,.box [.bool (x4==t.names)],.map (uM pl),.box [.map 2],.map (ay cX dv (bJ (t.n) t.names rw)),.box [.map 4]]) kq ?_
 rotate_left
 . simp [am.belO,hpV,Ty.v]
 iterate 14 kernel_rfl
 refine zm [20,21] (beq_eq_false_iff_ne.2 hb2) ?_ ?_;refine zR 4 (fun _=>[(1,.ptr 1 0),(3,.ptr 5 0),(4,.ptr 6 0),(25,.bool false)]) (fun _=>[u.bx,.box eL,.map (uM pl),.box [.map 2],.map (ay cX dv rw),.box [.map 4],t.bx]) ?_ ?_;refine iu kq kq ?_;refine qk ?_ ?_;refine aO (l:=[]) (.inl rfl) kq gp gp gp ?_ ?_;refine Eq.trans (b:=[u.bx,.box eL,.map (uM pl),.box [.map 2],.map (ay cX dv rw),.box [.map 4]]) kq ?_
 rotate_left
 . simp [am.belO,hpV,Ty.v]
 iterate 10 kernel_rfl
 all_goals
  first|(simp [hpV,eu, *];done)|(have e:=Tw hJ hq aq aq aq;simp [hpV,eu,e, *])
theorem qh (t u:Ty) (s:VSt) (hs:t.sz<100000000) (hq:Vq t) (hJ:s.J):av cx 193 [t.v,.ptr 1 0,.ptr 3 0,.ptr 5 0] (hpV u s) (fun v h=>v=.tup []/\h=hpV u (eu s t)):=B7 t u s.pl s.rw hs hq hJ
abbrev N9 (s:VSt)(t:Ty)(k:Nat):=(kA (dg s (t.kids.take k)) (t.kids.getD k Ty.zero))
abbrev MZ :List aa:=[.ptr 1 0,.ptr 3 0,.ptr 5 0]
theorem kn {p:Prop} (h:p:=by simp [am.belO,hpV,Ty.v]):p:=h
theorem Mq {p:Prop} (h:p:=by first|exact hm|exact xX hm (tY hp)|exact Hp _ hm hp|exact Hp _ (xX hm (tY hp)) hp):p:=h
theorem Ut {p:Prop} (h:p:=by exact congrArg (fun q=>hpV u q++[.box [.int .i64 t.kind,.str t.name,.int .i64 t.n,.imm (t.names.map .str),.imm (t.kids.map Ty.enc)]]) (CY _ t.kids k oq).symm):p:=h
theorem gx {p:Prop} (h:p:=by first|omega):p:=h
theorem mb {p:Prop} (h:p:=by simp [am.belO]):p:=h
abbrev MO (s:VSt)(t:Ty)(k:Nat):=kA (dg (eu s t) (t.kids.take k)) (t.kids.getD k Ty.zero)
abbrev Nn (s:VSt)(t:Ty)(k:Nat):=ay (aa.int .i64) aa.bool (dg (eu s t) (t.kids.take k)).pl
abbrev AN (t:Ty)(k:Nat):=t.kids.getD k Ty.zero
abbrev RN (s:VSt)(t:Ty):=ay (aa.int .i64) aa.bool (eu s t).pl
abbrev Gn (t:Ty):=t.kids.map Ty.enc
abbrev PV (s:VSt)(t:Ty)(k:Nat):=ay cX aa.bool (dg s (t.kids.take k)).pl
abbrev RM (s:VSt)(t:Ty)(k:Nat):=ay (aa.int .i64) aa.bool (MO s t k).pl
abbrev Cm :List aa:=[.ptr 1 0,.ptr 3 0,.ptr 5 0]
theorem Bd (t u:Ty) (s:VSt) (hs:t.sz<100000000) (hp:Vp t) (hm:s.J):av cx 192 [Ty.v t,.fn (.func 193) [] Cm] (hpV u s) (fun v h=>v=(.tup [])/\h=hpV u (kA s t)):=by
 induction hN:t.sz using Nat.strongRecOn generalizing t u s with|_ N ih =>
 have ihV:∀ (t' u:Ty) (s:VSt),t'.sz<t.sz->t'.sz<100000000->Vp t'->s.J->av cx 192 [t'.v,.fn (.func 193) [] Cm] (hpV u s) (fun v h=>v=.tup []/\h=hpV u (kA s t')):=fun t' u s h1 h2 h3 h4=>ih _ (by rw [<- hN];exact h1) t' u s h2 h3 h4 rfl
 have hz2:=jD t;refine fI 29 6 [] Tryz.func192 kq ?_;refine zZ (fun _=>[(0,Ty.v t),(1,.fn (.func 193) [] MZ)]) (fun _=>[u.bx,.box eL,.map (ay cX aa.bool s.pl),.box [.map 2],.map (ay cX dv s.rw),.box [.map 4]]) ?_ ?_;apply zW 1 (mT [(2,.ptr 6 0)] [0]) (mH [] [t.bx]);apply ai;apply zW 3 (mU [(8,.bool ((t.kind) != 5))]) id;by_cases hb1:(t.kind)=5;refine qf (x:=((t.kind) != 5)) (bne_eq_false_iff_eq.2 hb1) ?_ ?_;apply qK;apply zZ (mT [] [8]) id;apply ai;apply zV 2;refine qy (aj (l:=t.kids) (enc:=Ty.enc) kq dU) ?_ ?_ ?_;apply zR 1 (mU [(13,.imm (Gn t)),(14,nI t.kids.length),(15,.int .i64 0)]) id;apply qB 0;refine aT (σ:=Nat) (fun k=>[(1,.fn (.func 193) [] MZ),(2,.ptr 6 0),(13,.imm (Gn t)),(14,.int .i64 ((t.kids.length:Nat):Int)),(15,nI k)]) (fun k=>[u.bx,.box eL,.map (PV s t k),.box [.map 2],.map (ay cX dv (dg s (t.kids.take k)).rw),.box [.map 4],t.bx]) (fun k=>k<=t.kids.length) (fun k=>t.kids.length - k) 0 kq (by exact Nat.zero_le _) (fg kq kq aA mb) ?_;rintro k hk;apply zW 1 (mU [(16,.bool (decide (((k:Nat):Int)<((t.kids.length:Nat):Int))))]) id;apply ai;by_cases hb2:((k:Nat):Int)<((t.kids.length:Nat):Int);apply qt (decide_eq_true hb2);apply qK;apply zZ (mT [] [16]) id;apply ai;apply qB 1;refine zO ?_ ?_;refine qy ((au (k:=.i64) (l:=t.kids) (enc:=Ty.enc) (i:=((k:Nat):Int)) Ty.zero kq dU il d6 gx gx).trans (congrArg (fun cs=>some (aa.pimm cs 0,_)) (dz (AN t k)))) ?_ ?_ ?_;apply zR 3 (mU [(5,.ptr 7 0)]) (mH [] [(AN t k).bx]);apply qo;apply qr 2;refine qA (hs:=[u.bx,.box eL,.map (PV s t k),.box [.map 2],.map (ay cX dv (dg s (t.kids.take k)).rw),.box [.map 4]]) (hs':=[u.bx,.box eL,.map (ay cX aa.bool (N9 s t k).pl),.box [.map 2],.map (ay cX dv (N9 s t k).rw),.box [.map 4]]) (ihV _ _ _ (fV t k oq) (Nat.lt_trans (fV t k oq) hs) (xz (J1 hp) oq) Mq) kn kn rfl kn kn kq ?_;apply qe;refine ag ?_;apply ab;refine zZ (fun _=>[(1,.fn (.func 193) [] MZ),(2,.ptr 6 0),(13,.imm (Gn t)),(14,nI t.kids.length),(15,nI k)]) (fun _=>[u.bx,.box eL,.map (ay cX aa.bool (N9 s t k).pl),.box [.map 2],.map (ay cX dv (N9 s t k).rw),.box [.map 4],t.bx,(AN t k).bx]) ?_ ?_;apply qo;refine qy (az (a:=((k:Nat):Int)) (b:=1) kq gx gx) ?_ ?_ ?_;apply qr 1;apply qe;refine ab ⟨k+1,?_,?_,(fg kq (Eq.trans (b:=[u.bx,.box eL,.map (ay c4 aa.bool (kA (dg s (t.kids.take k)) (AN t k)).pl),.box [.map 2],.map (ay c4 dv (kA (dg s (t.kids.take k)) (AN t k)).rw),.box [.map 4],t.bx]) kq Ut) aA mb)⟩
 . omega
 . omega
 iterate 19 kernel_rfl
 apply qf (decide_eq_false hb2);refine aK 0 kq kq ?_;apply ac;apply ac;refine ao ?_;apply ab;apply zZ (mT [] [13,14,15,16]) id;refine zW 3 (fun _=>[(1,.fn (.func 193) [] MZ),(2,.ptr 6 0),(25,.bool ((t.kind)==5))]) (fun _=>[u.bx,.box eL,.map (PV s t k),.box [.map 2],.map (ay cX dv (dg s (t.kids.take k)).rw),.box [.map 4],t.bx]) ?_ ?_;apply qt (beq_iff_eq.2 hb1);apply qo;apply qr 2;refine qA (hs:=[u.bx,.box eL,.map (ay c4 aa.bool (dg s (t.kids.take k)).pl),.box [.map 2],.map (ay c4 dv (dg s (t.kids.take k)).rw),.box [.map 4]]) (hs':=[u.bx,.box eL,.map (ay c4 aa.bool (eu (dg s (t.kids.take k)) t).pl),.box [.map 2],.map (ay c4 dv (eu (dg s (t.kids.take k)) t).rw),.box [.map 4]]) (qh t _ _ hs (tY hp) Mq) kn kn rfl kn kn kq ?_;apply qe;refine aO (l:=[]) (.inl rfl) kq gp gp gp ?_ ?_;refine Eq.trans (b:=[u.bx,.box eL,.map (ay c4 aa.bool (eu (dg s (t.kids.take k)) t).pl),.box [.map 2],.map (ay c4 dv (eu (dg s (t.kids.take k)) t).rw),.box [.map 4]]) kq ?_
 rotate_left
 . simp [am.belO,hpV,Ty.v]
 iterate 19 kernel_rfl
 refine qt (x:=((t.kind) != 5)) (bne_iff_ne.2 hb1) ?_ ?_;apply qo;apply qr 2;refine qA (hs:=[u.bx,.box eL,.map (ay c4 aa.bool s.pl),.box [.map 2],.map (ay c4 dv s.rw),.box [.map 4]]) (hs':=[u.bx,.box eL,.map (RN s t),.box [.map 2],.map (ay c4 dv (eu s t).rw),.box [.map 4]]) (qh t _ _ hs (tY hp) Mq) kn kn rfl kn kn kq ?_;refine qN [(1,.fn (.func 193) [] Cm),(2,.ptr 6 0)] [u.bx,.box eL,.map (RN s t),.box [.map 2],.map (ay c4 dv (eu s t).rw),.box [.map 4],t.bx] ?_ ?_;apply ai;apply zV 2;refine qy (aj (l:=t.kids) (enc:=Ty.enc) kq dU) ?_ ?_ ?_;refine zR 1 (fun _=>[(1,.fn (.func 193) [] Cm),(2,.ptr 6 0),(13,.imm (Gn t)),(14,nI t.kids.length),(15,.int .i64 0)]) (fun _=>[u.bx,.box eL,.map (RN s t),.box [.map 2],.map (ay c4 dv (eu s t).rw),.box [.map 4],t.bx]) ?_ ?_;apply qB 0;refine aT (σ:=Nat) (fun k=>[(1,.fn (.func 193) [] Cm),(2,.ptr 6 0),(13,.imm (Gn t)),(14,.int .i64 ((t.kids.length:Nat):Int)),(15,.int .i64 ((k:Nat):Int))]) (fun k=>[u.bx,.box eL,.map (Nn s t k),.box [.map 2],.map (ay c4 dv (dg (eu s t) (t.kids.take k)).rw),.box [.map 4],t.bx]) (fun k=>k<=t.kids.length) (fun k=>t.kids.length - k) 0 kq (by exact Nat.zero_le _) (fg kq kq aA mb) ?_;rintro k hk;apply zW 1 (mU [(16,.bool (decide (((k:Nat):Int)<((t.kids.length:Nat):Int))))]) id;apply ai;by_cases hb4:((k:Nat):Int)<((t.kids.length:Nat):Int);apply qt (decide_eq_true hb4);apply qK;apply zZ (mT [] [16]) id;apply ai;apply qB 1;refine zO ?_ ?_;refine qy ((au (k:=.i64) (l:=t.kids) (enc:=Ty.enc) (i:=((k:Nat):Int)) Ty.zero kq dU il d6 gx gx).trans (congrArg (fun cs=>some (aa.pimm cs 0,_)) (dz (AN t k)))) ?_ ?_ ?_;apply zR 3 (mU [(5,.ptr 7 0)]) (mH [] [(AN t k).bx]);apply qo;apply qr 2;refine qA (hs:=[u.bx,.box eL,.map (Nn s t k),.box [.map 2],.map (ay c4 dv (dg (eu s t) (t.kids.take k)).rw),.box [.map 4]]) (hs':=[u.bx,.box eL,.map (RM s t k),.box [.map 2],.map (ay c4 dv (MO s t k).rw),.box [.map 4]]) (ihV _ _ _ (fV t k oq) (Nat.lt_trans (fV t k oq) hs) (xz (J1 hp) oq) Mq) kn kn rfl kn kn kq ?_;apply qe;refine ag ?_;apply ab;refine zZ (fun _=>[(1,.fn (.func 193) [] Cm),(2,.ptr 6 0),(13,.imm (Gn t)),(14,nI t.kids.length),(15,nI k)]) (fun _=>[u.bx,.box eL,.map (RM s t k),.box [.map 2],.map (ay c4 dv (MO s t k).rw),.box [.map 4],t.bx,(AN t k).bx]) ?_ ?_;apply qo;refine qy (az (a:=((k:Nat):Int)) (b:=1) kq gx gx) ?_ ?_ ?_;apply qr 1;apply qe;refine ab ⟨k+1,?_,?_,(fg kq (Eq.trans (b:=[u.bx,.box eL,.map (RM s t k),.box [.map 2],.map (ay c4 dv (MO s t k).rw),.box [.map 4],t.bx]) kq Ut) aA mb)⟩
 . omega
 . omega
 iterate 19 kernel_rfl
 apply qf (decide_eq_false hb4);refine aK 0 kq kq ?_;apply ac;apply ac;refine ao ?_;apply ab;apply zZ (mT [] [13,14,15,16]) id;refine zW 3 (fun _=>[(1,.fn (.func 193) [] Cm),(2,.ptr 6 0),(25,.bool ((t.kind)==5))]) (fun _=>[u.bx,.box eL,.map (Nn s t k),.box [.map 2],.map (ay c4 dv (dg (eu s t) (t.kids.take k)).rw),.box [.map 4],t.bx]) ?_ ?_;apply qf (beq_eq_false_iff_ne.2 hb1);refine qk ?_ ?_;refine aO (l:=[]) (.inl rfl) kq gp gp gp ?_ ?_;refine Eq.trans (b:=[u.bx,.box eL,.map (Nn s t k),.box [.map 2],.map (ay c4 dv (dg (eu s t) (t.kids.take k)).rw),.box [.map 4]]) kq ?_
 rotate_left
 . simp [am.belO,hpV,Ty.v]
 iterate 22 kernel_rfl
 all_goals
  refine congrArg (hpV u) ?_
  first|rw [Jb s t aq,List.take_of_length_le oq]|rw [Js s t aq,List.take_of_length_le oq]
def VSt.init:VSt:=⟨[],[]⟩
theorem G5:VSt.init.J:=⟨fun k b h=>by simp [VSt.init,aL] at h,fun k l h=>by simp [VSt.init,aL] at h⟩
theorem Ft (lf:List Nat) (i:Nat) (hi:i∈lf):(lf.filter (fun j=>!(Nat.beq j i))).length<lf.length:=by
 rcases Nat.lt_or_ge (lf.filter (fun j=>!(Nat.beq j i))).length lf.length with h|h
 . exact h
 . have he:lf.filter (fun j=>!(Nat.beq j i))=lf:=List.Sublist.eq_of_length_le List.filter_sublist h;rw [<- he] at hi;have:=(List.mem_filter.1 hi).2;rw [Nat.beq_refl] at this;cases this
theorem zx {α:Type}:∀ (l:List (Int×α)) (i:Nat) (d:Int×α),i<l.length->(aL (l.getD i d).1 l).isSome=true
 | [],i,d,h=>absurd h (Nat.not_lt_zero i)
 | p::l,0,d,_=>by simp [aL]
 | p::l,i+1,d,h=>by
  simp only [List.getD_cons_succ,aL];split
  . rfl
  . exact zx l i d (Nat.lt_of_succ_lt_succ h)
theorem K5 {s:VSt} (h:s.J) {i:Nat} {d:Int×List ej} (hi:i<s.rw.length):aL (s.rw.getD i d).1 s.pl=none:=by
 cases hm:aL (s.rw.getD i d).1 s.pl with
 | none=>rfl
 | some b =>
  exfalso;have h1:=h.p _ _ hm;have h2:=zx s.rw i d hi;rw [Option.isSome_iff_exists] at h2;obtain ⟨w,hw⟩:=h2;have h3:=(h.r _ _ hw).1;omega
abbrev x7 (t:Ty):=(kA VSt.init t)
abbrev Lq (t:Ty):=(ay cX aa.bool (x7 t).pl)
abbrev LM (t:Ty):=(ay cX dv (x7 t).rw)
theorem mp (t:Ty) (hs:t.sz<100000000) (hp:Vp t):ae cx 145 [Ty.v t] (.bool true):=by
 have hJ:=PE t _ G5 hp;refine fI 26 0 [(ResultVar.tmp 2)] Tryz.func145 kq ?_;refine zZ (fun _=>[(0,Ty.v t)]) (fun _=>[]) ?_ ?_;apply zW 2 (mT [(1,.ptr 0 0)] [0]) (mH [] [t.bx]);apply zW 2 (mU [(3,.ptr 1 0)]) (mH [] [.box eL]);apply zW 3 (mU [(4,.ptr 3 0)]) (mH [] [.map (ay cX aa.bool ([]:List (Int×Bool))),.box [.map 2]]);apply zW 3 (mU [(5,.ptr 5 0)]) (mH [] [.map (ay cX dv ([]:List (Int×List ej))),.box [.map 4]]);apply zV 2;refine qA (Bd t t VSt.init oq hp G5) kn kn rfl kn kn kq ?_;refine zN (mT [] [1]) (mO [(2,.map (Lq t)),(4,.map (LM t))]) ?_ ?_;apply ai;apply zV 1;refine KM (ek:=cX) (ev:=dv) (l:=(x7 t).rw) (m:=4) kq kq kq Aw kq ?_;refine zN (mT [(13,.itr 6)] [5]) (mH [] [.iter 4 ((List.range (x7 t).rw.length),none)]) ?_ ?_;apply qB 0;refine aT (σ:=(List Nat×Option Nat)) (fun ⟨lf,la⟩=>[(3,.ptr 1 0),(4,.ptr 3 0),(13,.itr 6)]) (fun ⟨lf,la⟩=>[t.bx,.box eL,.map (Lq t),.box [.map 2],.map (LM t),.box [.map 4],.iter 4 (lf,la)]) (fun ⟨lf,la⟩=>True) (fun ⟨lf,la⟩=>lf.length) (List.range (kA VSt.init t).rw.length,none) kq (by trivial) (fg kq kq aA mb) ?_;rintro ⟨lf,la⟩ _;refine zZ (fun _=>[(3,.ptr 1 0),(4,.ptr 3 0),(13,.itr 6)]) (fun _=>[t.bx,.box eL,.map (Lq t),.box [.map 2],.map (LM t),.box [.map 4],.iter 4 (lf,la)]) ?_ ?_;refine zO ?_ ?_;refine Ko (ek:=cX) (ev:=dv) (l:=(x7 t).rw) (o:=6) (m:=4) (lf:=lf) (la:=la) ((0:Int),([]:List ej)) kq kq kq kq kq ?_ ?_;intro hli1;apply zR 1 (mU [(15,.bool false)]) id;apply ai;refine iu kq kq ?_;refine aK 0 kq kq ?_;apply ac;apply ac;refine ao ?_;apply ab;refine zZ (fun _=>[(3,.ptr 1 0)]) (fun _=>[t.bx,.box eL,.map (Lq t),.box [.map 2],.map (LM t),.box [.map 4],.iter 4 (lf,la)]) ?_ ?_;apply zV 2;refine qT ?_ ?_;refine aD (b:=true) (.inr rfl) kq ?_
 . rfl
 iterate 5 kernel_rfl
 intro i1 hii1 hlti1;refine zR 1 (mU [(15,.bool true)]) (mO [(6,.iter 4 ((lf.filter (fun j=>!(Nat.beq j i1))),(some i1)))]) ?_ ?_;apply ai;refine ga kq kq ?_;apply qK;apply zZ (mT [] [15]) id;apply qB 1;refine zO ?_ ?_;refine Ec (ek:=cX) (ev:=dv) (l:=(x7 t).rw) (o:=6) (m:=4) (i:=i1) (lf:=(lf.filter (fun j=>!(Nat.beq j i1)))) ((0:Int),([]:List ej)) kq kq kq kq kq aq ?_;apply zR 2 (mU [(6,.int .i64 (((x7 t).rw.getD i1 ((0:Int),([]:List ej))).1))]) id;apply qo;apply qr 4;rcases hm2:aL (((kA VSt.init t).rw.getD i1 ((0:Int),([]:List ej))).1) (kA VSt.init t).pl with _|x2;refine qy (sh (ok:=false) (o:=2) (ek:=cX) (ev:=aa.bool) (l:=(x7 t).pl) (k:=(((x7 t).rw.getD i1 ((0:Int),([]:List ej))).1)) E4 hm2 kq PF ty3 rfl ty4 kq) ?_ ?_ ?_;apply qr 3;apply qe;refine ag ?_;refine ab ⟨((lf.filter (fun j=>!(Nat.beq j i1))),(some i1)),?_,?_,(fg kq kq aA mb)⟩
 . try dsimp only
   exact Ft lf _ aq
 . try dsimp only
   all_goals trivial
 iterate 4 kernel_rfl
 . exact absurd ((hm2).symm.trans (K5 hJ aq)) zq
 iterate 24 kernel_rfl
theorem Bc:∀ (l:List Ty) (k:Nat),Ty.szL (l.take k)<=Ty.szL l
 | [],k=>by simp
 | t::l,0=>by simp [Ty.szL]
 | t::l,k+1=>by have:=Bc l k;simp only [List.take_succ_cons,Ty.szL];omega
structure Occ where
 n:Int
 row:Bool
 names:List (List UInt8)
def Occ.zero:Occ:=⟨0,false,[]⟩
def Occ.v (o:Occ):aa:=.agg [.int .i64 o.n,.bool o.row,.imm (o.names.map .str)]
@[simp] theorem MY (h:af) (o:Occ):o.v.frz h=o.v:=by simp [Occ.v]
@[simp] theorem N8 (k:Nat) (o:Occ):o.v.bel k=true:=by simp [Occ.v]
@[simp] theorem Ik (o:Occ):o.v.owns=[]:=by simp [Occ.v]
@[simp] theorem Sb (h:af) (l:List Occ):aN h (l.map Occ.v)=l.map Occ.v:=bf h (fun o=>MY h o) l
@[simp] theorem R1 (k:Nat) (l:List Occ):aC k (l.map Occ.v)=true:=cG k (fun o=>N8 k o) l
@[simp] theorem Qh (l:List Occ):aF (l.map Occ.v)=[]:=cj (fun o=>Ik o) l
theorem J8 (h:af) (a b:List aa):aN h (a++b)=aN h a++aN h b:=by rw [cm,cm,cm,List.map_append]
mutual
def bc:Ty->List Occ
 | .mk k _ n l ks=>((if k=6 then [⟨n,false,[]⟩] else [])++cn ks)++(if k=5/\n≠0 then [⟨n,true,l⟩] else [])
def cn:List Ty->List Occ
 | []=>[]
 | t::l=>bc t++cn l
end
def Qt (t:Ty):List Occ:=if t.kind=6 then [⟨t.n,false,[]⟩] else []
def PM (t:Ty):List Occ:=if t.kind=5/\t.n≠0 then [⟨t.n,true,t.names⟩] else []
theorem L1 (t:Ty):bc t=(Qt t++cn t.kids)++PM t:=by cases t;simp only [bc,Qt,PM,Ty.kind,Ty.n,Ty.names,Ty.kids];rfl
theorem sC (t:Ty):∀ l,cn (l++[t])=cn l++bc t
 | []=>by simp [cn]
 | x::l=>by simp only [List.cons_append,cn,sC t l,List.append_assoc]
theorem Cr (l:List Ty) (k:Nat) (h:k<l.length):cn (l.take (k+1))=cn (l.take k)++bc (l.getD k Ty.zero):=by rw [ud l k h,sC]
mutual
theorem lK:∀ t:Ty,(bc t).length<=t.sz
 | .mk k x n l ks=>by
  have:=pw ks;simp only [bc,List.length_append,Ty.sz];by_cases h6:k=6
  . rw [if_pos h6,if_neg oq];simp;omega
  . rw [if_neg h6];split <;> simp <;> omega
theorem pw:∀ l:List Ty,(cn l).length<=Ty.szL l
 | []=>by simp [cn]
 | t::l=>by have:=lK t;have:=pw l;simp only [cn,List.length_append,Ty.szL];omega
end
mutual
theorem sB:∀ (t:Ty) (o:Occ),o∈bc t->o.names.length<=t.sz
 | .mk k x n l ks,o,h=>by
  simp only [bc,List.mem_append,Ty.sz] at h ⊢;rcases h with (h|h)|h
  . split at h
    . simp at h;subst h;simp
    . simp at h
  . have:=rb ks o h;omega
  . split at h
    . simp at h;subst h;have:=nN l;simp;omega
    . simp at h
theorem rb:∀ (l:List Ty) (o:Occ),o∈cn l->o.names.length<=Ty.szL l
 | [],o,h=>by simp [cn] at h
 | t::l,o,h=>by
  simp only [cn,List.mem_append,Ty.szL] at h ⊢;rcases h with h|h
  . have:=sB t o h;omega
  . have:=rb l o h;omega
end
theorem RT (t:Ty) (i:Nat):((bc t).getD i Occ.zero).names.length<=t.sz:=by
 by_cases h:i<(bc t).length
 . rw [List.getD_eq_getElem?_getD,List.getElem?_eq_getElem h];exact sB t _ (List.getElem_mem h)
 . rw [List.getD_eq_getElem?_getD,List.getElem?_eq_none oq];simp [Occ.zero]
theorem gC (t:Ty) (k:Nat):(cn (t.kids.take k)).length<=Ty.szL t.kids:=Nat.le_trans (pw _) (Bc _ _)
def OkO (o:Occ):Prop:=(o.row=false/\o.n<=10/\o.names=[])\/(o.row=true/\10<o.n/\o.names=rn o.n)
mutual
theorem EW:∀ t:Ty,Vp t->∀ o∈bc t,OkO o
 | .mk k x n l ks,h,o,ho=>by
  simp only [bc,List.mem_append] at ho;rcases ho with (ho|ho)|ho
  . split at ho
    . rename_i h6;rw [List.mem_singleton] at ho;subst ho;exact .inl ⟨rfl,h.1.v h6,rfl⟩
    . cases ho
  . exact zn ks h.2 o ho
  . split at ho
    . rename_i h5;rw [List.mem_singleton] at ho;subst ho;have:=h.1.w h5;exact .inr ⟨rfl,this.1,this.2⟩
    . cases ho
theorem zn:∀ l:List Ty,VpL l->∀ o∈cn l,OkO o
 | [],_,o,ho=>by cases ho
 | t::l,h,o,ho=>by
  simp only [cn,List.mem_append] at ho;rcases ho with ho|ho
  . exact EW t h.1 o ho
  . exact zn l h.2 o ho
end
theorem JE {t:Ty} (h:Vp t) {i:Nat} (hi:i<(bc t).length):OkO ((bc t).getD i Occ.zero):=by
 rw [List.getD_eq_getElem?_getD,List.getElem?_eq_getElem hi];exact EW t h _ (List.getElem_mem hi)
theorem KH {a b:Occ} (ha:OkO a) (hb:OkO b) (h:a.n=b.n):a.row=b.row/\(a.names==b.names)=true:=by
 rcases ha with ha|ha <;> rcases hb with hb|hb
 . rw [ha.1,hb.1,ha.2.2,hb.2.2];exact ⟨rfl,rfl⟩
 . have:=ha.2.1;have:=hb.2.1;omega
 . have:=ha.2.1;have:=hb.2.1;omega
 . rw [ha.1,hb.1,ha.2.2,hb.2.2,h];exact ⟨rfl,by simp⟩
abbrev rx (t:Ty)(k:Nat):=((([]:List (Occ))++[(Occ.mk (t.n) false [])])++cn (t.kids.take k))
abbrev rP (t:Ty)(k:Nat):=(([]:List (Occ))++cn (t.kids.take k))
abbrev u0 (t:Ty)(k:Nat):=(t.kids.getD k Ty.zero)
abbrev uw (t:Ty):=(Occ.mk (t.n) true t.names)
abbrev Eu (t:Ty):List aa:=[.agg [.int .i64 (t.n),.bool false,.full []]]
abbrev og :=([]:List (Occ))
theorem FP {p:Prop} (h:p:=by first|(simp;done)|(have:=gC t k;have:=fV t k oq;have:=lK (u0 t k);simp only [List.length_append,List.length_cons,List.length_nil];omega)|(have:=gC t k;simp only [List.length_append,List.length_cons,List.length_nil];omega)):p:=h
theorem MX {p:Prop} (h:p:=by first|(simp;done)|(have:=gC t k;have:=fV t k oq;have:=lK (t.kids.getD k Ty.zero);simp only [List.length_append,List.length_cons,List.length_nil];omega)|(have:=gC t k;simp only [List.length_append,List.length_cons,List.length_nil];omega)):p:=h
theorem uY {p:Prop} (h:p:=by first|omega|exact fV t k oq):p:=h
theorem kM {p:Prop} (h:p:=by simp [Ty.v,J8,Occ.v]):p:=h
theorem kR {p:Prop} (h:p:=by simp [Ty.v,cQ]):p:=h
theorem K6 {p:Prop} (h:p:=by rw [Cr _ _ oq,List.append_assoc]):p:=h
theorem BL {p:Prop} (h:p:=by simp [am.belO,-List.map_append]):p:=h
abbrev xi (t:Ty):=([]:List (Occ))++[(Occ.mk (t.n) false [])]
theorem wy (t:Ty) (hs:t.sz<100000000):ae cx 254 [Ty.v t] (.imm ((bc t).map Occ.v)):=by
 induction hN:t.sz using Nat.strongRecOn generalizing t with|_ N ih =>
 have ihO:∀ t':Ty,t'.sz<t.sz->ae cx 254 [t'.v] (.imm ((bc t').map Occ.v)):=fun t' h1=>ih _ (by rw [<- hN];exact h1) t' (Nat.lt_trans h1 hs) rfl
 have hz1:=j3 t;have hz2:=jD t;have hz3:=sF t;refine fI 46 0 [(ResultVar.tmp 2)] Tryz.func254 kq ?_;refine zZ (fun _=>[(0,Ty.v t)]) (fun _=>[]) ?_ ?_;apply zW 2 (mT [(1,.ptr 0 0)] [0]) (mH [] [t.bx]);apply zW 1 (mU [(3,.full [])]) id;refine jg 3 3 dq kq ?_;apply zZ (mK 1 [] []) (mO [(1,.arr 3 (og.map Occ.v) 0)]);apply ai;apply zW 3 (mU [(7,.bool ((t.kind)==6))]) id;by_cases hb1:(t.kind)=6;apply qt (beq_iff_eq.2 hb1);apply qo;apply qr 5;refine qY (kj (o:=1) (len:=0) (l:=og) (xs:=(Eu t)) (enc:=Occ.v) (sz:=3) (fr:=0) (x:=(.full (Eu t))) kq fp kh fp rfl kq rfl ez kq ⟨by decide,da⟩ kq FP FP) ?_ ?_ ?_;refine qR 1 [(1,.ptr 0 0),(3,.own 1 0 (og.length+1))] [t.bx,.arr 3 (og.map Occ.v++(Eu t)) 0] ?_ ?_;refine qV 1 (sz:=3) (fr:=0) (es:=(og.map Occ.v++(Eu t))) ((og++[(Occ.mk (t.n) false [])]).map Occ.v) kq kR kM ?_;refine GS 3 (.own 1 0 (og.length+1)) (.own 1 0 (og++[(Occ.mk (t.n) false [])]).length) kq zq ?_;apply zZ (mK 1 [] []) (mO [(1,.arr 3 ((og++[(Occ.mk (t.n) false [])]).map Occ.v) 0)]);apply ai;apply zW 1 (mU [(4,.int .i64 0)]) id;apply qB 0;refine aT (σ:=Nat) (fun k=>[(1,.ptr 0 0),(3,.own 1 0 ((xi t)++cn (t.kids.take k)).length),(4,.int .i64 ((k:Nat):Int))]) (fun k=>[t.bx,.arr 3 (((xi t)++cn (t.kids.take k)).map Occ.v) 0]) (fun k=>k<=t.kids.length) (fun k=>t.kids.length - k) 0 kq (by exact Nat.zero_le _) ⟨⟨kq,(Eq.trans (b:=.own 1 0 (xi t).length) kq (by simp [cn])),kq,trivial⟩,aA,by simp,(Eq.trans (b:=[t.bx,.arr 3 ((xi t).map Occ.v) 0]) kq (by simp [cn])),BL⟩ ?_;rintro k hk;apply ai;apply zV 3;refine qy (aj (l:=t.kids) (enc:=Ty.enc) kq dU) ?_ ?_ ?_;apply zR 1 (mU [(18,.bool (decide (((k:Nat):Int)<((t.kids.length:Nat):Int))))]) id;by_cases hb2:((k:Nat):Int)<((t.kids.length:Nat):Int);apply qt (decide_eq_true hb2);apply qK;apply zZ (mT [] [18]) id;apply ai;apply qB 1;apply qo;apply qr 4;refine qy ((au (k:=.i64) (l:=t.kids) (enc:=Ty.enc) (i:=((k:Nat):Int)) Ty.zero kq dU il d6 uY uY).trans (congrArg (fun cs=>some (aa.pimm cs 0,_)) (dz (u0 t k)))) ?_ ?_ ?_;apply qr 1;refine qP (ihO (u0 t k) uY) kM aG kR kq ?_;refine qY (aX (o:=1) (len:=(((xi t)++cn (t.kids.take k)).length)) (l:=((xi t)++cn (t.kids.take k))) (xs:=(bc (t.kids.getD k Ty.zero))) (enc:=Occ.v) (sz:=3) (fr:=0) (x:=(.imm ((bc (t.kids.getD k Ty.zero)).map Occ.v))) kq fp kh fp rfl kq rfl ez kq ⟨by decide,da⟩ (fun _=>rfl) MX MX) ?_ ?_ ?_;apply qr 1;apply qe;refine ag ?_;apply ab;refine zZ (fun _=>[(1,.ptr 0 0),(3,.own 1 0 ((rx t k)++(bc (u0 t k))).length),(4,nI k)]) (fun _=>[t.bx,.arr 3 (((rx t k)++(bc (u0 t k))).map Occ.v) 0]) ?_ ?_;apply qo;apply qr 1;refine qy (az (a:=((k:Nat):Int)) (b:=1) kq uY uY) ?_ ?_ ?_;apply qr 1;apply qe;refine ab ⟨k+1,?_,?_,⟨⟨kq,(hT K6 kq),kq,trivial⟩,aA,by simp,(hT K6 kq),BL⟩⟩
 . omega
 . omega
 iterate 22 kernel_rfl
 apply qf (decide_eq_false hb2);refine aK 0 kq kq ?_;apply ac;apply ac;refine ao ?_;apply ab;apply zZ (mT [] [4,18]) id;apply ai;apply zV 4;by_cases hb3:(t.kind)=5;refine zm [31,32] (beq_iff_eq.2 hb3) ?_ ?_;apply zR 4 (mU [(36,.bool ((t.n) != 0))]) id;by_cases hb4:(t.n)=0;refine qf (x:=((t.n) != 0)) (bne_eq_false_iff_eq.2 hb4) ?_ ?_;apply qK;apply zZ (mT [] [1,36]) id;refine zW 2 (fun _=>[(2,.own 1 0 (rx t k).length)]) (fun _=>[t.bx,.arr 3 ((rx t k).map Occ.v) 0]) ?_ ?_;refine aJ kq ?_;refine cd (l:=[.own 1 0 ((xi t)++cn (t.kids.take k)).length]) (.inr rfl) kq ?_
 rotate_left
 iterate 4 kernel_rfl
 refine qt (x:=((t.n) != 0)) (bne_iff_ne.2 hb4) ?_ ?_;apply qo;apply qr 7;refine qY (aX (o:=1) (len:=((rx t k).length)) (l:=(rx t k)) (xs:=[(uw t)]) (enc:=Occ.v) (sz:=3) (fr:=0) (x:=(.full [.agg [.int .i64 (t.n),.bool true,.imm (t.names.map aa.str)]])) kq fp kh fp rfl kq rfl ez kq ⟨by decide,da⟩ (fun _=>rfl) FP FP) ?_ ?_ ?_;refine qR 1 [(3,.own 1 0 ((rx t k)++[(uw t)]).length)] [t.bx,.arr 3 (((rx t k)++[(uw t)]).map Occ.v) 0] ?_ ?_;refine zW 2 (fun _=>[(2,.own 1 0 ((rx t k)++[(uw t)]).length)]) (fun _=>[t.bx,.arr 3 (((rx t k)++[(uw t)]).map Occ.v) 0]) ?_ ?_;refine aJ kq ?_;refine cd (l:=[.own 1 0 (((xi t)++cn (t.kids.take k))++[(Occ.mk (t.n) true t.names)]).length]) (.inr rfl) kq ?_
 rotate_left
 iterate 9 kernel_rfl
 refine zm [31,32] (beq_eq_false_iff_ne.2 hb3) ?_ ?_;apply zR 4 (mU [(36,.bool false)]) id;refine iu kq kq ?_;apply qK;apply zZ (mT [] [1,36]) id;refine zW 2 (fun _=>[(2,.own 1 0 (rx t k).length)]) (fun _=>[t.bx,.arr 3 ((rx t k).map Occ.v) 0]) ?_ ?_;refine aJ kq ?_;refine cd (l:=[.own 1 0 ((xi t)++cn (t.kids.take k)).length]) (.inr rfl) kq ?_
 rotate_left
 iterate 25 kernel_rfl
 apply qf (beq_eq_false_iff_ne.2 hb1);apply qK;apply zZ (mT [] [7]) id;apply ai;apply zW 1 (mU [(4,.int .i64 0)]) id;apply qB 0;refine aT (σ:=Nat) (fun k=>[(1,.ptr 0 0),(3,.own 1 0 (([]:List (Occ))++cn (t.kids.take k)).length),(4,.int .i64 ((k:Nat):Int))]) (fun k=>[t.bx,.arr 3 ((([]:List (Occ))++cn (t.kids.take k)).map Occ.v) 0]) (fun k=>k<=t.kids.length) (fun k=>t.kids.length - k) 0 kq (by exact Nat.zero_le _) ⟨⟨kq,(Eq.trans (b:=.own 1 0 0) kq (by simp [cn])),kq,trivial⟩,aA,by simp,(Eq.trans (b:=[t.bx,.arr 3 (([]:List (Occ)).map Occ.v) 0]) kq (by simp [cn])),BL⟩ ?_;rintro k hk;apply ai;apply zV 3;refine qy (aj (l:=t.kids) (enc:=Ty.enc) kq dU) ?_ ?_ ?_;apply zR 1 (mU [(18,.bool (decide (((k:Nat):Int)<((t.kids.length:Nat):Int))))]) id;by_cases hb5:((k:Nat):Int)<((t.kids.length:Nat):Int);apply qt (decide_eq_true hb5);apply qK;apply zZ (mT [] [18]) id;apply ai;apply qB 1;apply qo;apply qr 4;refine qy ((au (k:=.i64) (l:=t.kids) (enc:=Ty.enc) (i:=((k:Nat):Int)) Ty.zero kq dU il d6 uY uY).trans (congrArg (fun cs=>some (aa.pimm cs 0,_)) (dz (u0 t k)))) ?_ ?_ ?_;apply qr 1;refine qP (ihO (u0 t k) uY) kM aG kR kq ?_;refine qY (aX (o:=1) (len:=((([]:List (Occ))++cn (t.kids.take k)).length)) (l:=(([]:List (Occ))++cn (t.kids.take k))) (xs:=(bc (t.kids.getD k Ty.zero))) (enc:=Occ.v) (sz:=3) (fr:=0) (x:=(.imm ((bc (t.kids.getD k Ty.zero)).map Occ.v))) kq fp kh fp rfl kq rfl ez kq ⟨by decide,da⟩ (fun _=>rfl) MX MX) ?_ ?_ ?_;apply qr 1;apply qe;refine ag ?_;apply ab;refine zZ (fun _=>[(1,.ptr 0 0),(3,.own 1 0 ((rP t k)++(bc (u0 t k))).length),(4,nI k)]) (fun _=>[t.bx,.arr 3 (((rP t k)++(bc (u0 t k))).map Occ.v) 0]) ?_ ?_;apply qo;apply qr 1;refine qy (az (a:=((k:Nat):Int)) (b:=1) kq uY uY) ?_ ?_ ?_;apply qr 1;apply qe;refine ab ⟨k+1,?_,?_,⟨⟨kq,(Eq.trans (b:=.own 1 0 ((([]:List (Occ))++cn (t.kids.take k))++(bc (t.kids.getD k Ty.zero))).length) kq K6),kq,trivial⟩,aA,by simp,(Eq.trans (b:=[t.bx,.arr 3 (((([]:List (Occ))++cn (t.kids.take k))++(bc (t.kids.getD k Ty.zero))).map Occ.v) 0]) kq K6),BL⟩⟩
 . omega
 . omega
 iterate 22 kernel_rfl
 apply qf (decide_eq_false hb5);refine aK 0 kq kq ?_;apply ac;apply ac;refine ao ?_;apply ab;apply zZ (mT [] [4,18]) id;apply ai;apply zV 4;by_cases hb6:(t.kind)=5;refine zm [31,32] (beq_iff_eq.2 hb6) ?_ ?_;apply zR 4 (mU [(36,.bool ((t.n) != 0))]) id;by_cases hb7:(t.n)=0;refine qf (x:=((t.n) != 0)) (bne_eq_false_iff_eq.2 hb7) ?_ ?_;apply qK;apply zZ (mT [] [1,36]) id;refine zW 2 (fun _=>[(2,.own 1 0 (rP t k).length)]) (fun _=>[t.bx,.arr 3 ((rP t k).map Occ.v) 0]) ?_ ?_;refine aJ kq ?_;refine cd (l:=[.own 1 0 (([]:List (Occ))++cn (t.kids.take k)).length]) (.inr rfl) kq ?_
 rotate_left
 iterate 4 kernel_rfl
 refine qt (x:=((t.n) != 0)) (bne_iff_ne.2 hb7) ?_ ?_;apply qo;apply qr 7;refine qY (aX (o:=1) (len:=((rP t k).length)) (l:=(rP t k)) (xs:=[(uw t)]) (enc:=Occ.v) (sz:=3) (fr:=0) (x:=(.full [.agg [.int .i64 (t.n),.bool true,.imm (t.names.map aa.str)]])) kq fp kh fp rfl kq rfl ez kq ⟨by decide,da⟩ (fun _=>rfl) FP FP) ?_ ?_ ?_;refine qR 1 [(3,.own 1 0 ((rP t k)++[(uw t)]).length)] [t.bx,.arr 3 (((rP t k)++[(uw t)]).map Occ.v) 0] ?_ ?_;refine zW 2 (fun _=>[(2,.own 1 0 ((rP t k)++[(uw t)]).length)]) (fun _=>[t.bx,.arr 3 (((rP t k)++[(uw t)]).map Occ.v) 0]) ?_ ?_;refine aJ kq ?_;refine cd (l:=[.own 1 0 ((([]:List (Occ))++cn (t.kids.take k))++[(Occ.mk (t.n) true t.names)]).length]) (.inr rfl) kq ?_
 rotate_left
 iterate 9 kernel_rfl
 refine zm [31,32] (beq_eq_false_iff_ne.2 hb6) ?_ ?_;apply zR 4 (mU [(36,.bool false)]) id;refine iu kq kq ?_;apply qK;apply zZ (mT [] [1,36]) id;refine zW 2 (fun _=>[(2,.own 1 0 (rP t k).length)]) (fun _=>[t.bx,.arr 3 ((rP t k).map Occ.v) 0]) ?_ ?_;refine aJ kq ?_;refine cd (l:=[.own 1 0 (([]:List (Occ))++cn (t.kids.take k)).length]) (.inr rfl) kq ?_
 rotate_left
 iterate 27 kernel_rfl
 all_goals
  first|(exfalso;omega)|(have hk2:t.kids.take k=t.kids:=List.take_of_length_le oq;rw [L1,hk2];simp [Qt,PM,aZ,aa.frz,cw, *];done)
theorem Ck (t:Ty) (hs:t.sz<100000000) (hp:Vp t):ae cx 253 [Ty.v t] (.bool true):=by
 induction hN:t.sz using Nat.strongRecOn generalizing t with|_ N ih =>
 have ihW:∀ t':Ty,t'.sz<t.sz->Vp t'->ae cx 253 [t'.v] (.bool true):=fun t' h1 h2=>ih _ (by rw [<- hN];exact h1) t' (Nat.lt_trans h1 hs) h2 rfl
 have hz1:=j3 t;have hz2:=jD t;have hz3:=sF t;refine fI 24 0 [(ResultVar.tmp 2)] Tryz.func253 kq ?_;refine zZ (fun _=>[(0,Ty.v t)]) (fun _=>[]) ?_ ?_;apply zW 2 (mT [(1,.ptr 0 0)] [0]) (mH [] [t.bx]);apply zV 1;refine qP ((tY hp).r) kM aG kR kq ?_;apply zR 1 (mU [(3,.bool true)]) id;apply ai;apply zW 1 (mU [(4,.int .i64 0)]) id;apply qB 0;refine aT (σ:=Nat) (fun k=>[(1,.ptr 0 0),(3,.bool true),(4,nI k)]) (fun k=>[t.bx]) (fun k=>k<=t.kids.length) (fun k=>t.kids.length - k) 0 kq (by exact Nat.zero_le _) (fg kq kq aA mb) ?_;rintro k hk;apply ai;apply zV 3;refine qy (aj (l:=t.kids) (enc:=Ty.enc) kq dU) ?_ ?_ ?_;apply qr 2;by_cases hb1:((k:Nat):Int)<((t.kids.length:Nat):Int);refine zm [11,12] (decide_eq_true hb1) ?_ ?_;apply zR 2 (mU [(13,.bool true),(14,.bool true)]) id;refine ga kq kq ?_;apply qK;apply zZ (mT [] [3,14]) id;apply ai;apply qB 1;apply qo;apply qr 3;refine qy ((au (k:=.i64) (l:=t.kids) (enc:=Ty.enc) (i:=((k:Nat):Int)) Ty.zero kq dU il d6 gx gx).trans (congrArg (fun cs=>some (aa.pimm cs 0,_)) (dz (u0 t k)))) ?_ ?_ ?_;apply qr 1;refine qP (ihW _ (fV t k oq) (xz (J1 hp) oq)) kM aG kR kq ?_;apply qr 1;apply qe;refine ag ?_;apply ab;refine zZ (fun _=>[(1,.ptr 0 0),(3,.bool true),(4,nI k),(13,.bool true)]) (fun _=>[t.bx]) ?_ ?_;apply qo;apply qr 1;refine qy (az (a:=((k:Nat):Int)) (b:=1) kq gx gx) ?_ ?_ ?_;apply qr 1;apply qe;refine ab ⟨k+1,?_,?_,(fg kq kq aA mb)⟩
 . omega
 . omega
 iterate 21 kernel_rfl
 refine zm [11,12] (decide_eq_false hb1) ?_ ?_;apply zR 2 (mU [(13,.tup []),(14,.bool false)]) id;refine iu kq kq ?_;refine aK 0 kq kq ?_;apply ac;apply ac;refine ao ?_;apply ab;refine zZ (fun _=>[(3,.bool true)]) (fun _=>[t.bx]) ?_ ?_;apply zV 2;refine qT ?_ ?_;refine aD (b:=true) (.inr rfl) kq ?_
 . rfl
 iterate 18 kernel_rfl
abbrev yI (t:Ty)(i:Nat):=((bc t).getD i Occ.zero)
abbrev xm (t:Ty)(k:Nat):=((bc t).getD k Occ.zero)
abbrev NT (t:Ty)(i:Nat):List aa:=[.int .i64 ((yI t i).n),.bool ((yI t i).row),.imm ((yI t i).names.map aa.str)]
abbrev Mr (t:Ty)(k:Nat):List aa:=[.int .i64 ((xm t k).n),.bool ((xm t k).row),.imm ((xm t k).names.map aa.str)]
abbrev CE (t:Ty)(i:Nat)(k:Nat):=(((yI t i).names)==((xm t k).names))
abbrev Ew (t:Ty)(i:Nat)(k:Nat):aa:=(.bool (!(((yI t i).row)==((xm t k).row))))
abbrev sW (t:Ty):=((bc t).map Occ.v)
abbrev DH (t:Ty)(i:Nat)(k:Nat):aa:=(.bool (((yI t i).n)==((xm t k).n)))
theorem ka {p:Prop} (h:p:=by first|omega|exact Nat.lt_of_le_of_lt (hoa _) oq):p:=h
theorem zB (t:Ty) (hs:t.sz<100000000) (hp:Vp t):ae cx 221 [Ty.v t] (.bool true):=by
 have hz4:=lK t;have hoa:=RT t;refine fI 66 0 [(ResultVar.tmp 2)] Tryz.func221 kq ?_;refine zZ (fun _=>[(0,Ty.v t)]) (fun _=>[]) ?_ ?_;apply zW 2 (mT [(1,.ptr 0 0)] [0]) (mH [] [t.bx]);apply zV 1;refine qP (Ck t hs hp) kM aG kR kq ?_;apply zR 1 (mU [(3,.bool true)]) id;apply zV 1;refine qP (wy t ka) kM aG kR kq ?_;apply zR 1 (mT [(4,.imm (sW t))] [1]) id;apply ai;apply zW 1 (mU [(5,.int .i64 0)]) id;apply qB 0;refine aT (σ:=Nat) (fun i=>[(3,.bool true),(4,.imm (sW t)),(5,nI i)]) (fun i=>[t.bx]) (fun i=>i<=(bc t).length) (fun i=>(bc t).length - i) 0 kq zq (fg kq kq aA mb) ?_;rintro i hi;apply ai;apply zV 2;refine qy (aj (l:=(bc t)) (enc:=Occ.v) kq fp) ?_ ?_ ?_;apply qr 2;by_cases hb1:((i:Nat):Int)<(((bc t).length:Nat):Int);refine zm [15,16] (decide_eq_true hb1) ?_ ?_;apply zR 2 (mU [(17,.bool true),(18,.bool true)]) id;refine ga kq kq ?_;apply qK;apply zZ (mT [] [18]) id;apply ai;apply qB 1;apply zW 1 (mU [(6,.int .i64 0)]) id;apply qB 2;refine aT (σ:=Nat) (fun k=>[(3,.bool true),(4,.imm (sW t)),(5,nI i),(6,nI k),(17,.bool true)]) (fun k=>[t.bx]) (fun k=>k<=i) (fun k=>i - k) 0 kq zq (fg kq kq aA mb) ?_;rintro k hk;apply ai;apply zW 3 (mU [(23,.bool (decide (((k:Nat):Int)<((i:Nat):Int))))]) id;by_cases hb2:((k:Nat):Int)<((i:Nat):Int);apply qt (decide_eq_true hb2);apply qK;apply zZ (mT [] [23]) id;apply ai;apply qB 3;apply ai;refine zD cxM kq ax ?_;apply qu 2;refine qd (au (k:=.i64) (l:=(bc t)) (enc:=Occ.v) (i:=((i:Nat):Int)) Occ.zero kq fp kh (fun _=>rfl) ka ka) ?_ ?_ ?_ ?_;apply qu 4;refine qd (au (k:=.i64) (l:=(bc t)) (enc:=Occ.v) (i:=((k:Nat):Int)) Occ.zero kq fp kh (fun _=>rfl) ka ka) ?_ ?_ ?_ ?_;apply qu 2;refine qQ (lO ((yI t i).names) ((xm t k).names) ka) kM aG kR kq ?_;apply qu 1;refine bY kq ⟨kq,?_⟩;refine zE (mU [(7,.bool (CE t i k))]) id ?_ ?_;apply ai;refine zD cxM kq ax ?_;apply qu 2;refine qd (au (k:=.i64) (l:=(bc t)) (enc:=Occ.v) (i:=((i:Nat):Int)) Occ.zero kq fp kh (fun _=>rfl) ka ka) ?_ ?_ ?_ ?_;apply qu 4;refine qd (au (k:=.i64) (l:=(bc t)) (enc:=Occ.v) (i:=((k:Nat):Int)) Occ.zero kq fp kh (fun _=>rfl) ka ka) ?_ ?_ ?_ ?_;apply qu 4;by_cases hb3:(((bc t).getD i Occ.zero).n)=(((bc t).getD k Occ.zero).n);refine fq 47 (DH t i k) (.bool true) (fu ax) kq (congrArg aa.bool (beq_iff_eq.2 hb3)) ?_;refine fq 48 (DH t i k) (.bool true) (fu ax) kq (congrArg aa.bool (beq_iff_eq.2 hb3)) ?_;apply qu 2;refine qd (au (k:=.i64) (l:=(bc t)) (enc:=Occ.v) (i:=((i:Nat):Int)) Occ.zero kq fp kh (fun _=>rfl) ka ka) ?_ ?_ ?_ ?_;apply qu 4;refine qd (au (k:=.i64) (l:=(bc t)) (enc:=Occ.v) (i:=((k:Nat):Int)) Occ.zero kq fp kh (fun _=>rfl) ka ka) ?_ ?_ ?_ ?_;apply qu 4;by_cases hb4:(!((((bc t).getD i Occ.zero).row)==(((bc t).getD k Occ.zero).row)))=true;refine fq 59 (Ew t i k) (.bool true) (fu ax) kq (congrArg aa.bool (hb4)) ?_;refine fq 60 (Ew t i k) (.bool true) (fu ax) kq (congrArg aa.bool (hb4)) ?_;apply qu 4;refine bY kq ⟨kq,?_⟩;refine zE (mT [(49,.imm (sW t)),(50,nI i),(51,.pimm (NT t i) 0),(52,.pimm (NT t i) 1),(53,.bool ((yI t i).row)),(54,.imm (sW t)),(55,nI k),(56,.pimm (Mr t k) 0),(57,.pimm (Mr t k) 1),(58,.bool ((xm t k).row)),(59,.bool true),(60,.bool true),(61,.tup []),(62,.tup []),(63,.bool true),(64,.bool true)] [7]) id ?_ ?_;refine ga kq kq ?_;apply zV 1;refine qT ?_ ?_;apply iR;apply aR;apply aR;apply iR;apply iR;apply aR;apply aR;apply iR;apply aR;refine aD (b:=false) (.inr rfl) kq ?_
 rotate_left
 iterate 4 kernel_rfl
 refine fq 59 (Ew t i k) (.bool false) (fu ax) kq (congrArg aa.bool (Bool.eq_false_iff.2 hb4)) ?_;refine fq 60 (Ew t i k) (.bool false) (fu ax) kq (congrArg aa.bool (Bool.eq_false_iff.2 hb4)) ?_;apply qu 4;refine bY kq ⟨kq,?_⟩;refine zE (mT [(49,.imm (sW t)),(50,nI i),(51,.pimm (NT t i) 0),(52,.pimm (NT t i) 1),(53,.bool ((yI t i).row)),(54,.imm (sW t)),(55,nI k),(56,.pimm (Mr t k) 0),(57,.pimm (Mr t k) 1),(58,.bool ((xm t k).row)),(59,.bool false),(60,.bool false),(61,.bool (CE t i k)),(62,.bool (!(CE t i k))),(63,.bool (!(CE t i k))),(64,.bool (!(CE t i k)))] [7]) id ?_ ?_;by_cases hb5:((((bc t).getD i Occ.zero).names)==(((bc t).getD k Occ.zero).names))=true;refine qf (x:=(!(CE t i k))) (congrArg not (hb5)) ?_ ?_;refine qk ?_ ?_;refine ag ?_;apply ab;apply zZ (mT [] [64]) id;apply qo;apply qr 1;refine qy (az (a:=((k:Nat):Int)) (b:=1) kq ka ka) ?_ ?_ ?_;apply qr 1;apply qe;refine ab ⟨k+1,?_,?_,(fg kq kq aA mb)⟩
 . omega
 . omega
 iterate 9 kernel_rfl
 refine qt (x:=(!(CE t i k))) (congrArg not (Bool.eq_false_iff.2 hb5)) ?_ ?_;apply zV 1;refine qT ?_ ?_;apply iR;apply aR;apply aR;apply iR;apply iR;apply aR;apply aR;apply iR;apply aR;refine aD (b:=false) (.inr rfl) kq ?_
 rotate_left
 iterate 14 kernel_rfl
 refine fq 47 (DH t i k) (.bool false) (fu ax) kq (congrArg aa.bool (beq_eq_false_iff_ne.2 hb3)) ?_;refine fq 48 (DH t i k) (.bool false) (fu ax) kq (congrArg aa.bool (beq_eq_false_iff_ne.2 hb3)) ?_;apply qu 16;refine bY kq ⟨kq,?_⟩;refine zE (mT [(49,.tup []),(50,.tup []),(51,.tup []),(52,.tup []),(53,.tup []),(54,.tup []),(55,.tup []),(56,.tup []),(57,.tup []),(58,.tup []),(59,.tup []),(60,.tup []),(61,.tup []),(62,.tup []),(63,.tup []),(64,.bool false)] [7]) id ?_ ?_;refine iu kq kq ?_;refine qk ?_ ?_;refine ag ?_;apply ab;apply zZ (mT [] [64]) id;apply qo;apply qr 1;refine qy (az (a:=((k:Nat):Int)) (b:=1) kq ka ka) ?_ ?_ ?_;apply qr 1;apply qe;refine ab ⟨k+1,?_,?_,(fg kq kq aA mb)⟩
 . omega
 . omega
 iterate 38 kernel_rfl
 apply qf (decide_eq_false hb2);refine aK 2 kq kq ?_;apply ac;apply ac;refine ao ?_;refine ag ?_;apply ab;apply zZ (mT [] [6,23]) id;apply qo;apply qr 1;refine qy (az (a:=((i:Nat):Int)) (b:=1) kq ka ka) ?_ ?_ ?_;apply qr 1;apply qe;refine ab ⟨i+1,?_,?_,(fg kq kq aA mb)⟩
 . omega
 . omega
 iterate 20 kernel_rfl
 refine zm [15,16] (decide_eq_false hb1) ?_ ?_;apply zR 2 (mU [(17,.tup []),(18,.bool false)]) id;refine iu kq kq ?_;refine aK 0 kq kq ?_;apply ac;apply ac;refine ao ?_;apply ab;refine zZ (fun _=>[(3,.bool true)]) (fun _=>[t.bx]) ?_ ?_;apply zV 2;refine qT ?_ ?_;refine aD (b:=true) (.inr rfl) kq ?_
 rotate_left
 iterate 20 kernel_rfl
 all_goals
  first|rfl|(exfalso;have e:=KH (JE hp (i:=i) oq) (JE hp (i:=k) oq) aq;first|(have:=e.1;simp_all;done)|(exact absurd e.2 aq)|(have:=e.2;simp_all;done))
def oW (l:List Int) (n:Int):List Int:=if l.contains n then l else l++[n]
def nmO (l:List Occ) (k:Nat):List Int:=((l.take k).map Occ.n).foldl oW []
theorem JK {l:List Occ} {k:Nat} (h:k<l.length):nmO l (k+1)=oW (nmO l k) (l.getD k Occ.zero).n:=by
 rw [nmO,List.take_succ_eq_append_getElem h,List.map_append,List.foldl_append,List.getD_eq_getElem?_getD,List.getElem?_eq_getElem h];rfl
theorem Kv (l:List Int) (n:Int):(oW l n).length<=l.length+1:=by unfold oW;split <;> simp
theorem xn (l:List Occ):∀ k,(nmO l k).length<=k
 | 0=>by simp [nmO]
 | k+1=>by
  by_cases h:k<l.length
  . rw [JK h];have:=xn l k;have:=Kv (nmO l k) (l.getD k Occ.zero).n;omega
  . have:=xn l k;rw [nmO,List.take_of_length_le oq];rw [nmO,List.take_of_length_le oq] at this;omega
theorem Wo {l:List Int} {n:Int} (h:l.contains n=true):oW l n=l:=by rw [oW,if_pos h]
theorem W1 {l:List Int} {n:Int} (h:¬ l.contains n=true):oW l n=l++[n]:=by rw [oW,if_neg h]
theorem Rd {l:List Int} {n:Int} {k:Nat} (hk:k<l.length) (h:l.getD k 0=n):l.contains n=true:=by
 rw [List.contains_iff_mem,<- h,List.getD_eq_getElem?_getD,List.getElem?_eq_getElem hk];exact List.getElem_mem hk
theorem Qw {l:List Int} {n:Int} (ha:∀ i,i<l.length->¬ l.getD i 0=n):l.contains n=false:=by
 rw [Bool.eq_false_iff,Ne,List.contains_iff_mem];intro hm;obtain ⟨i,hi,e⟩:=List.getElem_of_mem hm;exact ha i hi (by rw [List.getD_eq_getElem?_getD,List.getElem?_eq_getElem hi];exact e)
theorem Ja (l:List Int) (n:Int):(oW l n).length≠0:=by
 unfold oW;split
 . rename_i h;intro e;rw [List.length_eq_zero_iff] at e;rw [e] at h;simp at h
 . simp
theorem Vw (l:List Occ):decide ((((nmO l l.length).length:Nat):Int)=0)=l.isEmpty:=by
 cases l with
 | nil=>rfl
 | cons a l =>
  have:∀ (xs:List Int) (b:List Int),b.length≠0->(xs.foldl oW b).length≠0:=by
   intro xs
   induction xs with
   | nil=>intro b h;exact h
   | cons x xs ih=>intro b h;exact ih _ (Ja b x)
  have h:=this (l.map Occ.n) (oW [] a.n) (Ja _ _);have e:nmO (a::l) (a::l).length=(l.map Occ.n).foldl oW (oW [] a.n):=by rw [nmO,List.take_length];rfl
  rw [e,decide_eq_false oq];rfl
theorem E1 (l:List Int) (n:Int) (hn:l.length<1000000000):ae cx 255 [.imm (l.map (aa.int .i64)),.int .i64 (n)] (.bool (l.contains n)):=by
 refine fI 18 0 [(ResultVar.tmp 4)] Tryz.func255 kq ?_;refine zZ (fun _=>[(jo l),(1,.int .i64 (n))]) (fun _=>[]) ?_ ?_;apply zW 1 id id;apply ai;apply zW 1 (mU [(5,.int .i64 0)]) id;apply qB 0;refine aT (σ:=Nat) (fun k=>[(jo l),(1,.int .i64 (n)),(5,nI k)]) (fun k=>[]) (fun k=>k<=l.length/\∀ i,i<k->¬ l.getD i 0=n) (fun k=>l.length - k) 0 kq zq (fg kq kq aA zq) ?_;rintro k ⟨hk,ha⟩;apply ai;apply zV 2;refine qy (aj (l:=l) (enc:=cX) kq Bu) ?_ ?_ ?_;apply zR 1 (mU [(9,.bool (decide (((k:Nat):Int)<((l.length:Nat):Int))))]) id;by_cases hb1:((k:Nat):Int)<((l.length:Nat):Int);apply qt (decide_eq_true hb1);apply qK;apply zZ (mT [] [9]) id;apply ai;apply qB 1;apply zV 2;refine qy (au (k:=.i64) (l:=l) (enc:=cX) (i:=((k:Nat):Int)) 0 kq Bu ty3 (fun _=>rfl) oq oq) ?_ ?_ ?_;refine zR 3 (fun _=>[(jo l),(1,.int .i64 (n)),(5,nI k),(17,.bool (((l.getD k 0))==(n)))]) (fun _=>[]) ?_ ?_;by_cases hb2:((l.getD k 0))=(n);apply qt (beq_iff_eq.2 hb2);apply zV 1;refine qT ?_ ?_;apply iR;apply aR;apply aR;apply iR;apply aR;refine aD (b:=true) (.inr rfl) kq ?_
 rotate_left
 iterate 3 kernel_rfl
 apply qf (beq_eq_false_iff_ne.2 hb2);refine qk ?_ ?_;refine ag ?_;apply ab;apply zZ (mT [] [17]) id;apply qo;apply qr 1;refine qy (az (a:=((k:Nat):Int)) (b:=1) kq oq oq) ?_ ?_ ?_;apply qr 1;apply qe;refine ab ⟨k+1,?_,?_,(fg kq kq aA zq)⟩
 . omega
 . refine ⟨by omega,fun i hi=>?_⟩;rcases Nat.lt_succ_iff_lt_or_eq.1 hi with h|h
   . exact ha i h
   . subst h;assumption
 iterate 19 kernel_rfl
 apply qf (decide_eq_false hb1);refine aK 0 kq kq ?_;apply ac;apply ac;refine ao ?_;apply ab;refine zZ (fun _=>[]) (fun _=>[]) ?_ ?_;apply zV 1;refine qT ?_ ?_;refine aD (b:=false) (.inr rfl) kq ?_
 rotate_left
 iterate 15 kernel_rfl
 all_goals
  first|exact (Rd (k:=k) oq aq).symm|exact (Qw (fun i hi=>ha i oq)).symm
mutual
def clB:Ty->Bool
 | .mk k x n l ks=>!(decide (k=6) || (decide (k=5) && !decide (n=0))) && FW ks
def FW:List Ty->Bool
 | []=>true
 | t::l=>clB t && FW l
end
theorem AC:∀ l,FW l=l.all clB
 | []=>rfl
 | t::l=>by rw [FW,AC l,List.all_cons]
theorem yk (t:Ty):clB t=(!(decide (t.kind=6) || (decide (t.kind=5) && !decide (t.n=0))) && !t.kids.any (fun x=>!clB x)):=by
 cases t;rw [clB,AC,List.all_eq_not_any_not];rfl
mutual
theorem EU:∀ t:Ty,(bc t).isEmpty=clB t
 | .mk k x n l ks=>by
  have ih:=zg ks;simp only [bc,clB,<- ih];by_cases h6:k=6
  . simp [h6]
  . by_cases h5:k=5/\n≠0
    . simp [h6,h5]
    . rw [if_neg h6,if_neg h5]
      have:(decide (k=5) && !decide (n=0))=false:=by
       rw [Bool.eq_false_iff];intro hc;simp at hc;exact h5 hc
      simp [h6,this]
theorem zg:∀ l:List Ty,(cn l).isEmpty=FW l
 | []=>rfl
 | t::l=>by
  have h1:=EU t;have h2:=zg l;simp only [cn,FW,<- h1,<- h2];cases bc t <;> simp
end
abbrev PQ (l:List Ty)(f:Nat):List (Nat×aa):=[(0,.imm (l.map Ty.enc)),(1,.fn (.func f) [] [])]
theorem Gr (l:List Ty) (f:Nat) (p:Ty->Bool) (hc:∀ i,i<l.length->ae cx f [(l.getD i Ty.zero).v] (.bool (p (l.getD i Ty.zero)))) (hn:l.length<1000000000):ae cx 241 [.imm (l.map Ty.enc),.fn (.func f) [] []] (.int .i64 (bF p l)):=by
 refine fI 19 0 [(ResultVar.tmp 4)] Tryz.func241 kq ?_;refine zZ (fun _=>(PQ l f)) (fun _=>[]) ?_ ?_;apply zW 1 id id;apply ai;apply zV 1;refine qy (aj (l:=l) (enc:=Ty.enc) kq dU) ?_ ?_ ?_;apply zR 1 (mU [(7,nI l.length),(8,.int .i64 0)]) id;apply qB 0;refine aT (σ:=Nat) (fun k=>[(0,.imm (l.map Ty.enc)),(1,.fn (.func f) [] []),(7,.int .i64 ((l.length:Nat):Int)),(8,.int .i64 ((k:Nat):Int))]) (fun k=>[]) (fun k=>k<=l.length/\∀ i,i<k->¬ p (l.getD i Ty.zero)=true) (fun k=>l.length - k) 0 kq zq (fg kq kq aA mb) ?_;rintro k ⟨hk,ha⟩;apply zW 1 (mU [(9,.bool (decide (((k:Nat):Int)<((l.length:Nat):Int))))]) id;apply ai;by_cases hb1:((k:Nat):Int)<((l.length:Nat):Int);apply qt (decide_eq_true hb1);apply qK;apply zZ (mT [] [9]) id;apply ai;apply qB 1;apply zW 2 (mU [(5,nI k)]) id;apply zV 3;refine qy ((au (k:=.i64) (l:=l) (enc:=Ty.enc) (i:=((k:Nat):Int)) Ty.zero kq dU il d6 oq oq).trans (congrArg (fun cs=>some (aa.pimm cs 0,_)) (dz (l.getD k Ty.zero)))) ?_ ?_ ?_;apply qr 1;refine qP (hc k oq) kM aG kR kq ?_;refine zN (fun _=>[(0,.imm (l.map Ty.enc)),(1,.fn (.func f) [] []),(5,nI k),(7,nI l.length),(8,nI k),(16,.bool (p (l.getD k Ty.zero)))]) (fun _=>[]) ?_ ?_;by_cases hb2:(p (l.getD k Ty.zero))=true;apply qt (hb2);apply zV 2;refine qT ?_ ?_;apply iR;apply aR;apply aR;apply iR;apply aR;refine dm (n:=((k:Nat):Int)) (.inr rfl) kq ?_
 rotate_left
 iterate 3 kernel_rfl
 apply qf (Bool.eq_false_iff.2 hb2);refine qk ?_ ?_;refine ag ?_;apply ab;apply zZ (mT [] [5,16]) id;apply qo;refine qy (az (a:=((k:Nat):Int)) (b:=1) kq oq oq) ?_ ?_ ?_;apply qr 1;apply qe;refine ab ⟨k+1,?_,?_,(fg kq kq aA mb)⟩
 . omega
 . refine ⟨by omega,fun i hi=>?_⟩;rcases Nat.lt_succ_iff_lt_or_eq.1 hi with h|h
   . exact ha i h
   . subst h;assumption
 iterate 20 kernel_rfl
 apply qf (decide_eq_false hb1);refine aK 0 kq kq ?_;apply ac;apply ac;refine ao ?_;apply ab;refine zZ (fun _=>[]) (fun _=>[]) ?_ ?_;apply zV 1;refine qT ?_ ?_;refine dm (n:=(-1)) (.inr rfl) kq ?_
 rotate_left
 iterate 15 kernel_rfl
 all_goals
  first|exact cO (p:=p) Ty.zero (l:=l) (k:=k) oq ha aq|exact cR (p:=p) Ty.zero (l:=l) (fun i hi=>ha i oq)
theorem vq (l:List Ty) (f:Nat) (p:Ty->Bool) (hc:∀ i,i<l.length->ae cx f [(l.getD i Ty.zero).v] (.bool (p (l.getD i Ty.zero)))) (hn:l.length<1000000000):ae cx 197 [.imm (l.map Ty.enc),.fn (.func f) [] []] (.bool (l.any p)):=by
 refine fI 9 0 [(ResultVar.tmp 4)] Tryz.func197 kq ?_;refine zZ (fun _=>(PQ l f)) (fun _=>[]) ?_ ?_;refine zW 1 (fun _=>(PQ l f)) (fun _=>[]) ?_ ?_;apply zV 2;refine qP (Gr l f p (hc) oq) kM aG kR kq ?_;refine qX 2 ?_ ?_;refine aD (b:=(decide ((bF p l) >= 0))) (.inr rfl) kq ?_
 . exact mh p l
 iterate 4 kernel_rfl
theorem xP (x:Ty) (h:ae cx 147 [x.v] (.bool (clB x))):ae cx 198 [Ty.v x] (.bool (!clB x)):=by
 refine fI 6 0 [(ResultVar.tmp 2)] Tryz.func198 kq ?_;refine zZ (fun _=>[(0,Ty.v x)]) (fun _=>[]) ?_ ?_;refine zW 2 (fun _=>[(1,.ptr 0 0)]) (fun _=>[x.bx]) ?_ ?_;apply zV 1;refine qP (h) kM aG kR kq ?_;refine qX 2 ?_ ?_;refine aD (b:=(!(clB x))) (.inr rfl) kq ?_
 . rfl
 iterate 4 kernel_rfl
theorem xr (t:Ty) (hs:t.sz<100000000) (hp:Vp t):ae cx 147 [Ty.v t] (.bool (clB t)):=by
 induction hN:t.sz using Nat.strongRecOn generalizing t with|_ N ih =>
 have ihC:∀ x:Ty,x.sz<t.sz->Vp x->ae cx 147 [x.v] (.bool (clB x)):=fun x h1 h2=>ih _ (by rw [<- hN];exact h1) x (Nat.lt_trans h1 hs) h2 rfl
 have hz2:=jD t;have hc:∀ i,i<t.kids.length->ae cx 198 [(t.kids.getD i Ty.zero).v] (.bool (!clB (t.kids.getD i Ty.zero))):=fun i hi=>xP _ (ihC _ (fV t i hi) (xz (J1 hp) hi))
 refine fI 29 0 [(ResultVar.tmp 2)] Tryz.func147 kq ?_;refine zZ (fun _=>[(0,Ty.v t)]) (fun _=>[]) ?_ ?_;apply zW 2 (mT [(1,.ptr 0 0)] [0]) (mH [] [t.bx]);apply zV 4;by_cases hb1:(t.kind)=6;refine zm [6,7] (beq_iff_eq.2 hb1) ?_ ?_;refine zR 10 (fun _=>[(1,.ptr 0 0),(3,.bool true)]) (fun _=>[t.bx]) ?_ ?_;apply zV 1;refine qP (mp t hs hp) kM aG kR kq ?_;refine qX 11 ?_ ?_;refine aD (b:=false) (.inr rfl) kq ?_
 . rw [yk];simp [*]
 iterate 4 kernel_rfl
 refine zm [6,7] (beq_eq_false_iff_ne.2 hb1) ?_ ?_;apply qr 4;by_cases hb2:(t.kind)=5;refine zm [10,11] (beq_iff_eq.2 hb2) ?_ ?_;refine zR 6 (fun _=>[(1,.ptr 0 0),(3,.bool ((t.n) != 0))]) (fun _=>[t.bx]) ?_ ?_;apply zV 1;refine qP (mp t hs hp) kM aG kR kq ?_;apply qr 5;by_cases hb3:(t.n)=0;refine zm [21,22,23] (x:=(!((t.n) != 0))) (congrArg not (bne_eq_false_iff_eq.2 hb3)) ?_ ?_;apply qr 2;refine qP (vq t.kids 198 (fun x=>!clB x) hc oq) kM aG kR kq ?_;refine qX 3 ?_ ?_;refine aD (b:=(!(t.kids.any (fun x=>!clB x)))) (.inr rfl) kq ?_
 . rw [yk];simp [*]
 iterate 3 kernel_rfl
 refine zm [21,22,23] (x:=(!((t.n) != 0))) (congrArg not (bne_iff_ne.2 hb3)) ?_ ?_;refine qX 6 ?_ ?_;refine aD (b:=false) (.inr rfl) kq ?_
 . rw [yk];simp [*]
 iterate 6 kernel_rfl
 refine zm [10,11] (beq_eq_false_iff_ne.2 hb2) ?_ ?_;refine zR 6 (fun _=>[(1,.ptr 0 0),(3,.bool false)]) (fun _=>[t.bx]) ?_ ?_;apply zV 1;refine qP (mp t hs hp) kM aG kR kq ?_;apply qr 7;refine qP (vq t.kids 198 (fun x=>!clB x) hc oq) kM aG kR kq ?_;refine qX 3 ?_ ?_;refine aD (b:=(!(t.kids.any (fun x=>!clB x)))) (.inr rfl) kq ?_
 . rw [yk];simp [*]
 iterate 10 kernel_rfl
theorem LK {p:Prop} (h:p:=by first|(rw [JK oq,Wo aq];done)|(rw [JK oq,W1 aq];done)):p:=h
theorem SI {p:Prop} (h:p:=by first|(simp;done)|(simp only [List.length_append,List.length_map,List.length_cons,List.length_nil];omega)):p:=h
abbrev Q5 (t:Ty)(k:Nat):=((nmO (bc t) k)++[(((bc t).getD k Occ.zero).n)]).map (aa.int .i64)
abbrev Qb (t:Ty)(k:Nat):=!((nmO (bc t) k).contains (((bc t).getD k Occ.zero).n))
theorem GT (t:Ty) (hs:t.sz<100000000):ae cx 222 [Ty.v t] (.imm ((nmO (bc t) (bc t).length).map (aa.int .i64))):=by
 have hz4:=lK t;refine fI 33 0 [(ResultVar.tmp 2)] Tryz.func222 kq ?_;refine zZ (fun _=>[(0,Ty.v t)]) (fun _=>[]) ?_ ?_;apply zW 2 (mT [(1,.ptr 0 0)] [0]) (mH [] [t.bx]);apply zV 1;refine qP (wy t ar) kM aG kR kq ?_;apply zR 1 (mT [(3,.imm ((bc t).map Occ.v))] [1]) id;apply zW 1 (mU [(4,.full [])]) id;refine jg 4 1 dq kq ?_;refine zL 1 (mO [(1,.arr 1 (([]:List (Int)).map (aa.int .i64)) (([]:List (Int)).map (aa.int .i64)).length)]) kq ?_;apply zZ (mK 1 [] []) id;apply ai;apply zW 1 (mU [(5,.int .i64 0)]) id;apply qB 0;refine aT (σ:=Nat) (fun k=>[(3,.imm ((bc t).map Occ.v)),(4,.own 1 0 (nmO (bc t) k).length),(5,.int .i64 ((k:Nat):Int))]) (fun k=>[t.bx,.arr 1 ((nmO (bc t) k).map (aa.int .i64)) ((nmO (bc t) k).map (aa.int .i64)).length]) (fun k=>k<=(bc t).length) (fun k=>(bc t).length - k) 0 kq (by exact Nat.zero_le _) (fg kq kq aA BL) ?_;rintro k hk;have hnl:=xn (bc t) k;apply ai;apply zV 2;refine qy (aj (l:=(bc t)) (enc:=Occ.v) kq fp) ?_ ?_ ?_;apply zR 1 (mU [(12,.bool (decide (((k:Nat):Int)<(((bc t).length:Nat):Int))))]) id;by_cases hb1:((k:Nat):Int)<(((bc t).length:Nat):Int);apply qt (decide_eq_true hb1);apply qK;refine zZ (fun _=>[(3,.imm ((bc t).map Occ.v)),(4,.own 1 0 (nmO (bc t) k).length),(5,nI k)]) (fun _=>[t.bx,.arr 1 ((nmO (bc t) k).map (aa.int .i64)) ((nmO (bc t) k).map (aa.int .i64)).length]) ?_ ?_;apply ai;apply qB 1;apply zV 3;refine qy (au (k:=.i64) (l:=(bc t)) (enc:=Occ.v) (i:=((k:Nat):Int)) Occ.zero kq fp kh (fun _=>rfl) ar ar) ?_ ?_ ?_;apply qr 2;refine vZ (args:=[.own 1 0 (nmO (bc t) k).length,.int .i64 (((bc t).getD k Occ.zero).n)]) (F:=[t.bx,.arr 1 ((nmO (bc t) k).map (aa.int .i64)) ((nmO (bc t) k).map (aa.int .i64)).length]) kq kq kq kq (E1 (nmO (bc t) k) (((bc t).getD k Occ.zero).n) ar) [t.bx,.arr 1 ((nmO (bc t) k).map (aa.int .i64)) ((nmO (bc t) k).map (aa.int .i64)).length] kq (by simp [aN,db,aF,aa.frz,aa.owns]) aG (by simp [aN,db,aF,aa.frz,aa.owns]) ?_;apply zR 1 (mU [(6,.bool ((nmO (bc t) k).contains (((bc t).getD k Occ.zero).n)))]) id;apply zW 2 (mT [(23,.bool (Qb t k))] [6]) id;by_cases hb2:((nmO (bc t) k).contains (((bc t).getD k Occ.zero).n))=true;refine qf (x:=(Qb t k)) (congrArg not (hb2)) ?_ ?_;refine qk ?_ ?_;refine ag ?_;apply ab;apply zZ (mT [] [23]) id;refine zL 1 id kq ?_;apply zZ id id;apply qo;apply qr 1;refine qy (az (a:=((k:Nat):Int)) (b:=1) kq ar ar) ?_ ?_ ?_;apply qr 1;apply qe;refine ab ⟨k+1,?_,?_,⟨⟨kq,(hT LK kq),kq,trivial⟩,aA,by simp,(hT LK kq),BL⟩⟩
 . omega
 . omega
 iterate 10 kernel_rfl
 refine qt (x:=(Qb t k)) (congrArg not (Bool.eq_false_iff.2 hb2)) ?_ ?_;apply qo;apply qr 3;refine qy (au (k:=.i64) (l:=(bc t)) (enc:=Occ.v) (i:=((k:Nat):Int)) Occ.zero kq fp kh (fun _=>rfl) ar ar) ?_ ?_ ?_;apply qr 3;refine qY (aX (o:=1) (len:=((nmO (bc t) k).length)) (l:=(nmO (bc t) k)) (xs:=[(((bc t).getD k Occ.zero).n)]) (enc:=(aa.int .i64)) (sz:=1) (fr:=((nmO (bc t) k).map (aa.int .i64)).length) (x:=(.full [.int .i64 (((bc t).getD k Occ.zero).n)])) kq Bu ty3 Bu rfl kq rfl ez kq ⟨by decide,da⟩ (fun _=>rfl) SI SI) ?_ ?_ ?_;apply qr 1;apply qe;refine ag ?_;apply ab;refine zZ (fun _=>[(3,.imm ((bc t).map Occ.v)),(4,.own 1 0 ((nmO (bc t) k)++[(((bc t).getD k Occ.zero).n)]).length),(5,nI k)]) (fun _=>[t.bx,.arr 1 (Q5 t k) ((nmO (bc t) k).map (aa.int .i64)).length]) ?_ ?_;refine zL 1 (mO [(1,.arr 1 (Q5 t k) (Q5 t k).length)]) kq ?_;apply zZ id id;apply qo;apply qr 1;refine qy (az (a:=((k:Nat):Int)) (b:=1) kq ar ar) ?_ ?_ ?_;apply qr 1;apply qe;refine ab ⟨k+1,?_,?_,⟨⟨kq,(hT LK kq),kq,trivial⟩,aA,by simp,(hT LK kq),BL⟩⟩
 . omega
 . omega
 iterate 30 kernel_rfl
 apply qf (decide_eq_false hb1);refine aK 0 kq kq ?_;apply ac;apply ac;refine ao ?_;apply ab;apply zZ (mT [] [3,5,12]) id;refine zW 2 (fun _=>[(2,.own 1 0 (nmO (bc t) k).length)]) (fun _=>[t.bx,.arr 1 ((nmO (bc t) k).map (aa.int .i64)) ((nmO (bc t) k).map (aa.int .i64)).length]) ?_ ?_;refine aJ kq ?_;refine cd (l:=[.own 1 0 (nmO (bc t) k).length]) (.inr rfl) kq ?_
 . have e_:k=(bc t).length:=by omega
   subst e_;simp [aZ,aa.frz,aN]
 iterate 18 kernel_rfl
theorem iq (t:Ty) (hs:t.sz<100000000) (hp:Vp t):ae cx 166 [Ty.v t] (.bool (clB t)):=by
 refine fI 13 0 [(ResultVar.tmp 2)] Tryz.func166 kq ?_;refine zZ (fun _=>[(0,Ty.v t)]) (fun _=>[]) ?_ ?_;apply zW 2 (mT [(1,.ptr 0 0)] [0]) (mH [] [t.bx]);apply zV 1;refine qP (zB t hs hp) kM aG kR kq ?_;refine zR 1 (fun _=>[(1,.ptr 0 0),(3,.bool true)]) (fun _=>[t.bx]) ?_ ?_;apply zV 3;refine qP (GT t hs) kM aG kR kq ?_;refine qy (aj (l:=(nmO (bc t) (bc t).length)) (enc:=(aa.int .i64)) kq Bu) ?_ ?_ ?_;refine qX 3 ?_ ?_;refine aD (b:=((((nmO (bc t) (bc t).length).length:Nat):Int)==0)) (.inr rfl) kq ?_;by_cases hb1:(((nmO (bc t) (bc t).length).length:Nat):Int)=0;refine Eq.trans (beq_iff_eq.2 hb1) ?_
 rotate_left
 refine Eq.trans (beq_eq_false_iff_ne.2 hb1) ?_
 rotate_left
 iterate 8 kernel_rfl
 all_goals
  rw [<- EU,<- Vw];first|exact (decide_eq_true aq).symm|exact (decide_eq_false aq).symm|(simp [*];done)
end Go.Proofs.YtcpklndelobigaaGreatDoor
