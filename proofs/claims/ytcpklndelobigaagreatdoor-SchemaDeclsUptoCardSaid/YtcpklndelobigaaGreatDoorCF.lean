/- A part of the proof: plain lemmas and walks. No condition. -/
import Derived.Test.YtcpklndelobigaaGreatDoorM8
set_option linter.all false
namespace Go.Proofs.YtcpklndelobigaaGreatDoor
open Go.Proofs.YtcpklndelobigaaGreatDoor.Abs
set_option maxRecDepth 20000
set_option maxHeartbeats 4000000
@[simp] theorem R3 (l:List (List UInt8)):ep (l.map .str)=[]:=dM _ zq
@[simp] theorem Uo (l:List Ty):ep (l.map Ty.enc)=[]:=dM _ zq
@[simp] theorem R6 (l:List Int):ep (l.map (.int .i64))=[]:=dM _ zq
@[simp] theorem sU (r:Nat->Nat) (l:List (List UInt8)):bX r (l.map .str)=l.map .str:=dA _ _ zq
@[simp] theorem Mo (r:Nat->Nat) (l:List Ty):bX r (l.map Ty.enc)=l.map Ty.enc:=dA _ _ zq
@[simp] theorem SH (r:Nat->Nat) (l:List Int):bX r (l.map (.int .i64))=l.map (.int .i64):=dA _ _ zq
def lg (l:List (List UInt8)) (s:List UInt8):Nat:=(l.takeWhile (fun x=>aS x s)).length
def vb (t:Ty) (s:List UInt8):List (List UInt8):=t.names.take (lg t.names s)++[s]++t.names.drop (lg t.names s)
def tw (t:Ty) (s:List UInt8) (x:Ty):List Ty:=t.kids.take (lg t.names s)++[x]++t.kids.drop (lg t.names s)
def rC (t:Ty) (s:List UInt8) (x:Ty):Ty:=.mk 5 [] t.n (vb t s) (tw t s x)
def C3 (t:Ty):aa:=.agg [.int .i64 t.kind,.str t.name,.int .i64 t.n,.imm (t.names.map .str),.own 0 0 t.kids.length]
def C1 (t:Ty):af:=[.arr 5 (t.kids.map Ty.enc) 0]
theorem ou (t:Ty) (s:List UInt8) (x:Ty):C3 (rC t s x)=.agg [.int .i64 5,.str [],.int .i64 t.n,.imm ((vb t s).map .str),.own 0 0 (tw t s x).length]:=rfl
theorem l7 (t:Ty) (s:List UInt8) (x:Ty):C1 (rC t s x)=[.arr 5 ((tw t s x).map Ty.enc) 0]:=rfl
theorem ti:∀ (l:List (List UInt8)) (s:List UInt8) (k:Nat),(∀ i,i<k->aS (l.getD i []) s=true)->k<=l.length->(k<l.length->aS (l.getD k []) s=false)->lg l s=k
 | [],s,k,h,hk,_=>by simp at hk;subst hk;rfl
 | x::l,s,0,h,hk,hs=>by
  have:=hs zq;simp at this;simp [lg,List.takeWhile,this]
 | x::l,s,k+1,h,hk,hs=>by
  have h0:=h 0 oq;simp at h0;have:=ti l s k (fun i hi=>by have:=h (i+1) oq;simpa using this) (by simpa using hk) (fun hlt=>by have:=hs (by simpa using hlt);simpa using this);simp [lg,List.takeWhile,h0] at this ⊢;exact this
noncomputable def W7:Code:=fZ Tryz.f172
abbrev B5 (t:Ty)(k:Nat)(s:List UInt8):=(((([]:List (List UInt8))++((t.names.take k).drop 0))++[s])++((t.names.take t.names.length).drop k))
abbrev At (t:Ty)(k:Nat)(x:Ty):=(((([]:List (Ty))++((t.kids.take k).drop 0))++[x])++((t.kids.take t.kids.length).drop k))
abbrev Ab (t:Ty)(k:Nat)(s:List UInt8)(x:Ty):List aa:=[.int .i64 5,.str [],.int .i64 (t.n),.imm ((B5 t k s).map aa.str),.own 5 0 (At t k x).length]
abbrev NK (t:Ty)(k:Nat)(x:Ty)(s:List UInt8):List am:=[.arr 5 ((At t k x).map Ty.enc) 0,.box [.int .i64 5,.str [],.int .i64 (t.n),.imm ((B5 t k s).map aa.str),.own 0 0 (At t k x).length]]
abbrev A6 (t:Ty)(k:Nat):=(([]:List (List UInt8))++((t.names.take k).drop 0))
abbrev A2 (t:Ty)(k:Nat):=(([]:List (Ty))++((t.kids.take k).drop 0))
abbrev Lc (t:Ty)(k:Nat)(s:List UInt8)(x:Ty):List aa:=[.int .i64 5,.str [],.int .i64 (t.n),.own 4 0 (B5 t k s).length,.own 5 0 (At t k x).length]
abbrev pX (t:Ty)(k:Nat)(s:List UInt8):=((B5 t k s).map aa.str)
abbrev Qg (t:Ty):List aa:=[.int .i64 5,.str [],.int .i64 (t.n),.own 4 0 0,.own 5 0 0]
abbrev Eb (t:Ty):List aa:=[.int .i64 5,.str [],.int .i64 (t.n),.own 4 0 0,.full []]
abbrev EV (t:Ty):List aa:=[.int .i64 5,.str [],.int .i64 (t.n),.full [],.full []]
abbrev Oy (x:Ty):aa:=(.full [.agg [.int .i64 (x.kind),.str x.name,.int .i64 (x.n),.imm (x.names.map aa.str),.imm (x.kids.map Ty.enc)]])
abbrev Pa (t:Ty):List (Nat×am):=[(3,.box (Qg t)),(4,.arr 1 (([]:List (List UInt8)).map aa.str) 0),(5,.arr 5 (([]:List (Ty)).map Ty.enc) 0)]
abbrev Ev (t:Ty)(k:Nat):=((t.names.take t.names.length).drop k)
abbrev DZ (t:Ty)(k:Nat):=((t.kids.take t.kids.length).drop k)
abbrev OK (t:Ty)(k:Nat)(s:List UInt8):List (Nat×am):=[(3,.box [.int .i64 5,.str [],.int .i64 (t.n),.own 4 0 (B5 t k s).length,.own 5 0 0]),(4,.arr 1 (pX t k s) 0)]
theorem iD {p:Prop} (h:p:=by simp only [List.length_append,List.length_take,List.length_drop,List.length_cons,List.length_nil];omega):p:=h
theorem mY {p:Prop} (h:p:=by simp [-List.map_append,-List.map_take,-List.map_drop,-List.append_assoc,aa.refs,ep,am.refs,am.isIter,KO,Abs.renT,nR,FQ,am.ren,aa.ren,bX,List.idxOf_cons]):p:=h
theorem ez {p:Prop} (h:p:=by first|rfl|simp):p:=h
theorem da {p:Prop} (h:p:=by kernel_rfl):p:=h
theorem nW {p:Prop} (h:p:=by simp [am.belO,-List.map_append,-List.map_take,-List.map_drop,-List.append_assoc]):p:=h
theorem oQ {p:Prop} (h:p:=by simp [aZ,-List.map_append,-List.map_take,-List.map_drop,-List.append_assoc]):p:=h
abbrev NR (t:Ty)(k:Nat)(x:Ty):=((([]:List (Ty))++((t.kids.take k).drop 0))++[x])++((t.kids.take t.kids.length).drop k)
abbrev GF (t:Ty)(k:Nat):=(t.names.take k).drop 0
theorem MT (t x:Ty) (s:List UInt8) (hs:t.sz<100000000) (hx:x.sz<100000000) (hnk:t.names.length=t.kids.length):av cx 172 [Ty.v t,.str s,Ty.v x] [] (fun v h=>v=C3 (rC t s x)/\h=C1 (rC t s x)):=by
 have hz1:=j3 t;have hz2:=jD t;refine ed (cx:=cx) 61 0 [(ResultVar.cell 6 43)] Tryz.func172 rfl rfl rfl rfl rfl zq ?_;show wpA cx 61 0 (at_ W7 []) _ _ _;refine zZ (fun _=>[(0,Ty.v t),(1,.str s),(2,Ty.v x)]) (fun _=>[]) ?_ ?_;apply zW 3 (mT [(3,.ptr 0 0),(5,.ptr 1 0),(6,.ptr 2 0)] [0,2]) (mH [] [t.bx,x.bx,.box [.int .i64 0,.str [],.int .i64 0,.full [],.full []]]);apply zW 1 (mU [(7,.int .i64 0)]) id;apply ai;apply qB 0;refine aT (σ:=Nat) (fun k=>[(1,.str s),(3,.ptr 0 0),(5,.ptr 1 0),(6,.ptr 2 0),(7,nI k)]) (fun k=>[t.bx,x.bx,.box [.int .i64 0,.str [],.int .i64 0,.full [],.full []]]) (fun k=>k<=t.names.length/\∀ i,i<k->aS (t.names.getD i []) s=true) (fun k=>t.names.length - k) 0 kq zq (fg kq kq aA (by simp [am.belO])) ?_;rintro k ⟨hk,ha⟩;apply ai;apply zV 3;refine qy (aj (l:=t.names) (enc:=aa.str) kq a6) ?_ ?_ ?_;apply qr 2;by_cases hb1:((k:Nat):Int)<((t.names.length:Nat):Int);refine zm [13,14] (decide_eq_true hb1) ?_ ?_;apply qr 3;refine qy (au (k:=.i64) (l:=t.names) (enc:=aa.str) (i:=((k:Nat):Int)) [] kq a6 ty9 (fun _=>rfl) oq oq) ?_ ?_ ?_;apply zR 4 (mU [(15,.ptr 0 3),(16,.imm (t.names.map aa.str)),(17,nI k),(18,.pimm [.str (t.names.getD k [])] 0),(19,.str (t.names.getD k [])),(20,.str s),(21,.bool (aS (t.names.getD k []) s)),(22,.bool (aS (t.names.getD k []) s))]) id;by_cases hb2:(aS (t.names.getD k []) s)=true;apply qt (hb2);apply qK;apply zZ (mT [] [22]) id;apply qB 1;apply qo;apply qr 1;refine qy (az (a:=((k:Nat):Int)) (b:=1) kq oq oq) ?_ ?_ ?_;apply qr 1;apply qe;refine ag ?_;refine ab ⟨k+1,?_,?_,(fg kq kq aA (by simp [am.belO]))⟩
 . omega
 . refine ⟨by omega,fun i hi=>?_⟩;rcases Nat.lt_succ_iff_lt_or_eq.1 hi with h|h
   . exact ha i h
   . subst h;assumption
 iterate 11 kernel_rfl
 apply qf (Bool.eq_false_iff.2 hb2);refine aK 0 kq kq ?_;apply ac;apply ac;refine ao ?_;apply ab;apply zZ (mT [] [15,16,17,18,19,20,21,22]) id;apply zW 5 (mU [(8,.ptr 3 0)]) (mH [] [.box (EV t)]);refine wu 3 3 1 (cs:=(EV t)) (Eb t) dq kq kq kq ?_;refine wu 3 4 5 (cs:=(Eb t)) (Qg t) dq kq kq kq ?_;apply zZ id (mO (Pa t));apply ai;refine zD cxM kq ax ?_;apply qu 5;refine qd (ec (lo:=none) (hi:=(some (nI k))) (l:=t.names) (enc:=aa.str) (x:=0) (y:=((k:Nat):Int)) kq a6 ty9 (fun _=>rfl) kq kq oq oq oq) ?_ ?_ ?_ ?_;refine qD (aX (o:=4) (len:=0) (l:=([]:List (List UInt8))) (xs:=(GF t k)) (enc:=aa.str) (sz:=1) (fr:=0) (x:=(.imm ((GF t k).map aa.str))) kq a6 ty9 a6 rfl kq rfl ez kq ⟨by decide,da⟩ (fun _=>rfl) iD iD) ?_ ?_ ?_ ?_;apply qu 2;refine qD (aX (o:=4) (len:=((A6 t k).length)) (l:=(A6 t k)) (xs:=[s]) (enc:=aa.str) (sz:=1) (fr:=0) (x:=(.full [.str s])) kq a6 ty9 a6 rfl kq rfl ez kq ⟨by decide,da⟩ (fun _=>rfl) iD iD) ?_ ?_ ?_ ?_;apply qu 3;refine qd (ec (lo:=(some (nI k))) (hi:=none) (l:=t.names) (enc:=aa.str) (x:=((k:Nat):Int)) (y:=((t.names.length:Nat):Int)) kq a6 ty9 (fun _=>rfl) kq kq oq oq oq) ?_ ?_ ?_ ?_;refine qD (aX (o:=4) (len:=(((A6 t k)++[s]).length)) (l:=((A6 t k)++[s])) (xs:=(Ev t k)) (enc:=aa.str) (sz:=1) (fr:=0) (x:=(.imm ((Ev t k).map aa.str))) kq a6 ty9 a6 rfl kq rfl ez kq ⟨by decide,da⟩ (fun _=>rfl) iD iD) ?_ ?_ ?_ ?_;apply qu 2;refine bY kq ⟨kq,?_⟩;refine zE (mT [] [1]) (mO (OK t k s)) ?_ ?_;apply ai;refine zD cxM kq ax ?_;apply qu 5;refine qd (ec (lo:=none) (hi:=(some (nI k))) (l:=t.kids) (enc:=Ty.enc) (x:=0) (y:=((k:Nat):Int)) kq dU il d6 kq kq oq oq oq) ?_ ?_ ?_ ?_;refine qD (aX (o:=5) (len:=0) (l:=([]:List (Ty))) (xs:=((t.kids.take k).drop 0)) (enc:=Ty.enc) (sz:=5) (fr:=0) (x:=(.imm (((t.kids.take k).drop 0).map Ty.enc))) kq dU il dU rfl kq rfl ez kq ⟨by decide,da⟩ wg iD iD) ?_ ?_ ?_ ?_;apply qu 2;refine qD (aX (o:=5) (len:=((A2 t k).length)) (l:=(A2 t k)) (xs:=[x]) (enc:=Ty.enc) (sz:=5) (fr:=0) (x:=(Oy x)) kq dU il dU rfl kq rfl ez (Eq.trans (b:=some [Ty.v x]) kq (by simp [Ty.enc_v])) ⟨by decide,da⟩ wg iD iD) ?_ ?_ ?_ ?_;apply qu 3;refine qd (ec (lo:=(some (nI k))) (hi:=none) (l:=t.kids) (enc:=Ty.enc) (x:=((k:Nat):Int)) (y:=((t.kids.length:Nat):Int)) kq dU il d6 kq kq oq oq oq) ?_ ?_ ?_ ?_;refine qD (aX (o:=5) (len:=(((A2 t k)++[x]).length)) (l:=((A2 t k)++[x])) (xs:=(DZ t k)) (enc:=Ty.enc) (sz:=5) (fr:=0) (x:=(.imm ((DZ t k).map Ty.enc))) kq dU il dU rfl kq rfl ez kq ⟨by decide,da⟩ wg iD iD) ?_ ?_ ?_ ?_;apply qu 2;refine bY kq ⟨kq,?_⟩;refine zE (mT [] [3,5,7]) (mO [(3,.box (Lc t k s x)),(5,.arr 5 ((At t k x).map Ty.enc) 0)]) ?_ ?_;refine IL 3 3 4 (cs:=(Lc t k s x)) (es:=(pX t k s)) (off:=0) (len:=((B5 t k s).length)) (sz:=1) (fr:=0) (Ab t k s x) (pX t k s) dq kq kq kq zq kq kq ?_;apply zZ id (mO [(3,.box (Ab t k s x)),(4,.arr 1 (pX t k s) (pX t k s).length)]);refine zW 2 (fun _=>[(6,.ptr 2 0)]) (fun _=>[t.bx,x.bx,.box (Ab t k s x),.box (Ab t k s x),.arr 1 (pX t k s) (pX t k s).length,.arr 5 ((At t k x).map Ty.enc) 0]) ?_ ?_;refine Ai [5,2] [(6,.ptr 1 0)] (NK t k x s) dq mY mY mY mY ?_;refine zZ (fun _=>[(6,.ptr 1 0)]) (fun _=>(NK t k x s)) ?_ ?_;refine aJ kq ?_;refine fm (l:=[.agg [.int .i64 5,.str [],.int .i64 (t.n),.imm ((((([]:List (List UInt8))++(GF t k))++[s])++((t.names.take t.names.length).drop k)).map aa.str),.own 0 0 (NR t k x).length]]) 1 [.arr 5 ((NR t k x).map Ty.enc) 0] (.inr rfl) kq (Nat.zero_le _) kq oQ nW ?_
 rotate_left
 iterate 54 kernel_rfl
 refine zm [13,14] (decide_eq_false hb1) ?_ ?_;apply zR 8 (mU [(15,.tup []),(16,.tup []),(17,.tup []),(18,.tup []),(19,.tup []),(20,.tup []),(21,.tup []),(22,.bool false)]) id;refine iu kq kq ?_;refine aK 0 kq kq ?_;apply ac;apply ac;refine ao ?_;apply ab;apply zZ (mT [] [15,16,17,18,19,20,21,22]) id;apply zW 5 (mU [(8,.ptr 3 0)]) (mH [] [.box (EV t)]);refine wu 3 3 1 (cs:=(EV t)) (Eb t) dq kq kq kq ?_;refine wu 3 4 5 (cs:=(Eb t)) (Qg t) dq kq kq kq ?_;apply zZ id (mO (Pa t));apply ai;refine zD cxM kq ax ?_;apply qu 5;refine qd (ec (lo:=none) (hi:=(some (nI k))) (l:=t.names) (enc:=aa.str) (x:=0) (y:=((k:Nat):Int)) kq a6 ty9 (fun _=>rfl) kq kq oq oq oq) ?_ ?_ ?_ ?_;refine qD (aX (o:=4) (len:=0) (l:=([]:List (List UInt8))) (xs:=(GF t k)) (enc:=aa.str) (sz:=1) (fr:=0) (x:=(.imm ((GF t k).map aa.str))) kq a6 ty9 a6 rfl kq rfl ez kq ⟨by decide,da⟩ (fun _=>rfl) iD iD) ?_ ?_ ?_ ?_;apply qu 2;refine qD (aX (o:=4) (len:=((A6 t k).length)) (l:=(A6 t k)) (xs:=[s]) (enc:=aa.str) (sz:=1) (fr:=0) (x:=(.full [.str s])) kq a6 ty9 a6 rfl kq rfl ez kq ⟨by decide,da⟩ (fun _=>rfl) iD iD) ?_ ?_ ?_ ?_;apply qu 3;refine qd (ec (lo:=(some (nI k))) (hi:=none) (l:=t.names) (enc:=aa.str) (x:=((k:Nat):Int)) (y:=((t.names.length:Nat):Int)) kq a6 ty9 (fun _=>rfl) kq kq oq oq oq) ?_ ?_ ?_ ?_;refine qD (aX (o:=4) (len:=(((A6 t k)++[s]).length)) (l:=((A6 t k)++[s])) (xs:=(Ev t k)) (enc:=aa.str) (sz:=1) (fr:=0) (x:=(.imm ((Ev t k).map aa.str))) kq a6 ty9 a6 rfl kq rfl ez kq ⟨by decide,da⟩ (fun _=>rfl) iD iD) ?_ ?_ ?_ ?_;apply qu 2;refine bY kq ⟨kq,?_⟩;refine zE (mT [] [1]) (mO (OK t k s)) ?_ ?_;apply ai;refine zD cxM kq ax ?_;apply qu 5;refine qd (ec (lo:=none) (hi:=(some (nI k))) (l:=t.kids) (enc:=Ty.enc) (x:=0) (y:=((k:Nat):Int)) kq dU il d6 kq kq oq oq oq) ?_ ?_ ?_ ?_;refine qD (aX (o:=5) (len:=0) (l:=([]:List (Ty))) (xs:=((t.kids.take k).drop 0)) (enc:=Ty.enc) (sz:=5) (fr:=0) (x:=(.imm (((t.kids.take k).drop 0).map Ty.enc))) kq dU il dU rfl kq rfl ez kq ⟨by decide,da⟩ wg iD iD) ?_ ?_ ?_ ?_;apply qu 2;refine qD (aX (o:=5) (len:=((A2 t k).length)) (l:=(A2 t k)) (xs:=[x]) (enc:=Ty.enc) (sz:=5) (fr:=0) (x:=(Oy x)) kq dU il dU rfl kq rfl ez (Eq.trans (b:=some [Ty.v x]) kq (by simp [Ty.enc_v])) ⟨by decide,da⟩ wg iD iD) ?_ ?_ ?_ ?_;apply qu 3;refine qd (ec (lo:=(some (nI k))) (hi:=none) (l:=t.kids) (enc:=Ty.enc) (x:=((k:Nat):Int)) (y:=((t.kids.length:Nat):Int)) kq dU il d6 kq kq oq oq oq) ?_ ?_ ?_ ?_;refine qD (aX (o:=5) (len:=(((A2 t k)++[x]).length)) (l:=((A2 t k)++[x])) (xs:=(DZ t k)) (enc:=Ty.enc) (sz:=5) (fr:=0) (x:=(.imm ((DZ t k).map Ty.enc))) kq dU il dU rfl kq rfl ez kq ⟨by decide,da⟩ wg iD iD) ?_ ?_ ?_ ?_;apply qu 2;refine bY kq ⟨kq,?_⟩;refine zE (mT [] [3,5,7]) (mO [(3,.box (Lc t k s x)),(5,.arr 5 ((At t k x).map Ty.enc) 0)]) ?_ ?_;refine IL 3 3 4 (cs:=(Lc t k s x)) (es:=(pX t k s)) (off:=0) (len:=((B5 t k s).length)) (sz:=1) (fr:=0) (Ab t k s x) (pX t k s) dq kq kq kq zq kq kq ?_;apply zZ id (mO [(3,.box (Ab t k s x)),(4,.arr 1 (pX t k s) (pX t k s).length)]);refine zW 2 (fun _=>[(6,.ptr 2 0)]) (fun _=>[t.bx,x.bx,.box (Ab t k s x),.box (Ab t k s x),.arr 1 (pX t k s) (pX t k s).length,.arr 5 ((At t k x).map Ty.enc) 0]) ?_ ?_;refine Ai [5,2] [(6,.ptr 1 0)] (NK t k x s) dq mY mY mY mY ?_;refine zZ (fun _=>[(6,.ptr 1 0)]) (fun _=>(NK t k x s)) ?_ ?_;refine aJ kq ?_;refine fm (l:=[.agg [.int .i64 5,.str [],.int .i64 (t.n),.imm ((((([]:List (List UInt8))++(GF t k))++[s])++((t.names.take t.names.length).drop k)).map aa.str),.own 0 0 (NR t k x).length]]) 1 [.arr 5 ((NR t k x).map Ty.enc) 0] (.inr rfl) kq (Nat.zero_le _) kq oQ nW ?_
 rotate_left
 iterate 61 kernel_rfl
 all_goals
  have hput:lg t.names s=k:=ti _ _ _ ha oq (fun hlt=>by first|exact Bool.eq_false_iff.2 aq|(exfalso;omega));refine ⟨?_,?_⟩
  . rw [ou];simp [vb,tw,hput,aZ]
  . rw [l7];simp [vb,tw,hput]
abbrev UI :List aa:=[.str [97],.str [98],.str [99],.str [105,100]]
theorem Dh  :ae cx 101 [] (.imm [.str [97],.str [98],.str [99],.str [105,100]]):=by
 refine fI 2 0 [(ResultVar.tmp 0)] Tryz.func101 kq ?_;refine zZ (fun _=>[]) (fun _=>[]) ?_ ?_;apply zW 1 id id;refine zW 2 (fun _=>[(0,.full UI)]) (fun _=>[]) ?_ ?_;refine aJ kq ?_;refine cd (l:=[.full UI]) (.inr rfl) kq ?_
 . exact ⟨rfl,rfl⟩
 iterate 3 kernel_rfl
def nms:List (List UInt8):=[[97],[98],[99],[105,100]]
theorem qv:ae cx 101 [] (.imm (nms.map .str)):=Dh
theorem Ea:nms.length=4:=rfl
def ia (k:Int):Ty:=if k=3 then .mk 3 [67,111,108,111,114] 0 [] [] else if k=4 then .mk 3 [83,104,97,112,101] 0 [] [] else .mk k [] 0 [] []
def nw (kid:Nat->Ty):Nat->Nat->Int->Ty->Ty
 | 0,_,_,o=>o
 | f+1,i,w,o=>nw kid f (i+1) (w.tdiv 2) (if w.tmod 2=1 then rC o (nms.getD i []) (kid i) else o)
def GW:Ty:=.mk 5 [] 0 [] []
def ak (l:List Int):Nat->Nat->Ty
 | 0,q=>ia ((ah l q 8).tmod 5)
 | d+1,q=>if ah l q 8<5 then ia (ah l q 8) else if ah l q 8=5 then .mk 4 [] 0 [] [ak l d (q+1)]
  else nw (fun i=>ak l d (q+2+3 * i)) 4 0 (ah l (q+1) 16) GW
theorem Dy (a b:List (List UInt8)):szS (a++b)=szS a+szS b:=by
 induction a with
 | nil=>simp [szS]
 | cons x a ih=>simp [szS,ih];omega
theorem EN (a b:List Ty):Ty.szL (a++b)=Ty.szL a+Ty.szL b:=by
 induction a with
 | nil=>simp [Ty.szL]
 | cons x a ih=>simp [Ty.szL,ih];omega
theorem yg (t:Ty) (s:List UInt8) (x:Ty):(rC t s x).sz<=t.sz+s.length+1+x.sz+1:=by
 have e:=sF t;have h1:szS t.names=szS (t.names.take (lg t.names s))+szS (t.names.drop (lg t.names s)):=by rw [<- Dy,List.take_append_drop]
 have h2:Ty.szL t.kids=Ty.szL (t.kids.take (lg t.names s))+Ty.szL (t.kids.drop (lg t.names s)):=by rw [<- EN,List.take_append_drop]
 simp only [rC,vb,tw,Ty.sz,Dy,EN,szS,Ty.szL,List.length_nil];omega
theorem yn (t:Ty) (s:List UInt8) (x:Ty) (h:t.names.length=t.kids.length):(rC t s x).names.length=(rC t s x).kids.length:=by
 show (vb t s).length=(tw t s x).length;simp only [vb,tw,List.length_append,List.length_take,List.length_drop,h,List.length_cons,List.length_nil]
def bd:Nat->Nat
 | 0=>20
 | n+1=>4 * (bd n+10)+20
theorem BB (i:Nat):(nms.getD i []).length<=2:=by
 match i with
 | 0=>decide
 | 1=>decide
 | 2=>decide
 | 3=>decide
 | i+4=>simp [nms]
theorem Ef (kid:Nat->Ty) (b:Nat) (hk:∀ i,(kid i).sz<=b):∀ f i w o,(nw kid f i w o).sz<=o.sz+f * (b+4)
 | 0,i,w,o=>by simp [nw]
 | f+1,i,w,o=>by
  have:=Ef kid b hk f (i+1) (w.tdiv 2) (if w.tmod 2=1 then rC o (nms.getD i []) (kid i) else o);simp only [nw];refine Nat.le_trans this ?_;have e:(f+1) * (b+4)=f * (b+4)+(b+4):=Nat.succ_mul _ _;rw [e];split
  . have h1:=yg o (nms.getD i []) (kid i);have h2:=hk i;have h3:=BB i;omega
  . omega
theorem yN (k:Int):(ia k).sz<=20:=by
 unfold ia;split
 . decide
 . split
   . decide
   . simp [Ty.sz,szS,Ty.szL]
theorem kU (l:List Int):∀ d q,(ak l d q).sz<=bd d
 | 0,q=>yN _
 | d+1,q=>by
  have ih:=kU l d;have hp:20<=bd (d+1):=by simp only [bd];omega
  unfold ak;split
  . exact Nat.le_trans (yN _) hp
  . split
    . simp only [Ty.sz,szS,Ty.szL,bd,List.length_nil];have:=ih (q+1);omega
    . have:=Ef (fun i=>ak l d (q+2+3 * i)) (bd d) (fun i=>ih _) 4 0 (ah l (q+1) 16) GW;have e:GW.sz=1:=rfl;simp only [bd];omega
theorem m1 (l:List Int) (d q:Nat) (h:d<=2):(ak l d q).sz<=10000:=by
 refine Nat.le_trans (kU l d q) ?_
 match d,h with
 | 0,_=>decide
 | 1,_=>decide
 | 2,_=>decide
def clQ (t:Ty) (v:aa) (h:af):Prop:=(t.kind=5/\v=C3 t/\h=C1 t)\/(¬ t.kind=5/\v.frz h=t.v)
theorem If (t:Ty):(C3 t).frz (C1 t)=t.v:=by simp [C3,C1,aa.frz,aN,Ty.v]
theorem LI {t:Ty} {v:aa} {h:af} (hq:clQ t v h):v.frz h=t.v:=by
 rcases hq with ⟨_,rfl,rfl⟩|⟨_,h1⟩
 . exact If t
 . exact h1
abbrev K0 (l:List Int)(q:Nat)(d:Int):List aa:=[.imm (l.map (.int .i64)),.int .i64 (q:Nat),.int .i64 d]
theorem HF {l:List Int} {q:Nat} {d:Int} {t:Ty} (h:av cx 99 (K0 l q d) [] (clQ t)):ae cx 99 (K0 l q d) t.v:=eD h (fun _ _=>LI) zq
theorem mu (kid:Nat->Ty) (i:Nat) (w:Int) (o:Ty) (h:i<4):nw kid (4 - i) i w o=nw kid (4 - (i+1)) (i+1) (w.tdiv 2) (if w.tmod 2=1 then rC o (nms.getD i []) (kid i) else o):=by
 rw [show 4 - i=(4 - (i+1))+1 by omega,nw]
theorem yO {a i:Nat} (h:a<=1+i * 20000):a<=1+(i+1) * 20000:=Nat.le_trans h (Nat.add_le_add_left (Nat.mul_le_mul_right _ (Nat.le_succ i)) 1)
theorem Oi {w:Int} (h:0<=w) (h1:w<16):0<=w.tdiv 2/\w.tdiv 2<16:=by
 rw [Int.tdiv_eq_ediv_of_nonneg h];omega
theorem mJ {d:Int} (h:0<d):d.toNat=(d - 1).toNat+1:=by omega
theorem FSa {l:List Int} {q:Nat} {d:Int} (h:d=0):ak l d.toNat q=ia ((ah l q 8).tmod 5):=by rw [h];rfl
theorem wl {l:List Int} {q:Nat} {d:Int} (h:0<d) (h5:ah l q 8<5):ak l d.toNat q=ia (ah l q 8):=by rw [mJ h,ak,if_pos h5]
theorem wa {l:List Int} {q:Nat} {d:Int} (h:0<d) (h5:ah l q 8=5):ak l d.toNat q=.mk 4 [] 0 [] [ak l (d - 1).toNat (q+1)]:=by rw [mJ h,ak,if_neg oq,if_pos h5]
theorem Gl {l:List Int} {q:Nat} {d:Int} (h:0<d) (h5:5<ah l q 8):ak l d.toNat q=nw (fun i=>ak l (d - 1).toNat (q+2+3 * i)) 4 0 (ah l (q+1) 16) GW:=by rw [mJ h,ak,if_neg oq,if_neg oq]
theorem zv {t:Ty} {v:aa} {h:af} {k:Int} (e:t=ia k) (hk:0<=k/\k<5) (hv:v.frz h=(ia k).v):clQ t v h:=by
 subst e;refine .inr ⟨?_,hv⟩;unfold ia;split
 . simp [Ty.kind]
 . split
   . simp [Ty.kind]
   . simp only [Ty.kind];omega
noncomputable def c99:Code:=fZ Tryz.f99
abbrev fQ :List aa:=[.int .i64 0,.str [],.int .i64 0,.full [],.full []]
abbrev HS (l:List Int)(q:Nat)(d:Int)(w:Int)(i:Nat):List (Nat×aa):=[(0,.imm (l.map (aa.int .i64))),(1,nI q),(2,.int .i64 (d)),(6,.ptr 0 0),(8,.ptr 1 0),(9,.int .i64 (w)),(10,nI i)]
abbrev N1 (o:Ty):List aa:=[.int .i64 (o.kind),.str o.name,.int .i64 (o.n),.imm (o.names.map aa.str),.own 2 0 o.kids.length]
abbrev N7 (o:Ty)(i:Nat)(l:List Int)(d:Int)(q:Nat):=(tw o (nms.getD i []) (ak l (d - 1).toNat ((q+2)+(3 * i))))
abbrev uP (l:List Int)(q:Nat):=((ah l q 8).tmod 5)
abbrev Ud (o:Ty):List am:=[.arr 5 (o.kids.map Ty.enc) 0,.box [.int .i64 (o.kind),.str o.name,.int .i64 (o.n),.imm (o.names.map aa.str),.own 0 0 o.kids.length]]
abbrev jo (l:List Int):Nat×aa:=(0,.imm (l.map (aa.int .i64)))
abbrev UJ (o:Ty)(i:Nat)(l:List Int)(d:Int)(q:Nat):List am:=[.box fQ,.box [.int .i64 5,.str [],.int .i64 (o.n),.imm ((vb o (nms.getD i [])).map aa.str),.own 2 0 (N7 o i l d q).length],.arr 5 ((N7 o i l d q).map Ty.enc) 0]
abbrev Qf (l:List Int)(q:Nat):List am:=[.box [.int .i64 (ah l q 8),.str [],.int .i64 0,.full [],.full []]]
abbrev JJ (l:List Int)(q:Nat):List am:=[.box [.int .i64 (uP l q),.str [],.int .i64 0,.full [],.full []]]
abbrev Im :List am:=[.box [.int .i64 3,.str [67,111,108,111,114],.int .i64 0,.full [],.full []]]
abbrev Pq :List am:=[.box [.int .i64 3,.str [83,104,97,112,101],.int .i64 0,.full [],.full []]]
theorem bH {p:Prop} (h:p:=by first|omega|assumption|decide):p:=h
theorem aG {p:Prop} (h:p:=by simp [Ty.v,Ex.v,Ct.v,Co.v,Rf.v,Sm.v,Tb.v,Sc.v]):p:=h
theorem JA {p:Prop} (h:p:=by simp [aa.frz,aN,aa.ren,bX,gL,am.ren,cb,db,aF,aa.owns,ou,l7,Ty.v]):p:=h
theorem UC {p:Prop} (h:p:=by simp [aZ,aa.frz,aN,Ty.v,Ty.kind,Ty.name,Ty.n,Ty.names,Ty.kids,ia, *];done):p:=h
abbrev Qc (o:Ty):List aa:=[.int .i64 (o.kind),.str o.name,.int .i64 (o.n),.imm (o.names.map aa.str),.own 2 0 o.kids.length]
abbrev P6 (l:List Int)(q:Nat):List aa:=[.agg [.int .i64 ((ah l q 8).tmod 5),.str [],.int .i64 0,.full [],.full []]]
abbrev jf :List (Nat×aa):=[(6,.ptr 0 0)]
abbrev QT (l:List Int)(q:Nat):List aa:=[.agg [.int .i64 (ah l q 8),.str [],.int .i64 0,.full [],.full []]]
abbrev x5 (o:Ty):=o.kids.map Ty.enc
theorem Ak (l:List Int) (q:Nat) (d:Int) (hl:jU l) (hq:(q:Int)+100 * d<=1000000) (hd:0<=d/\d<=3):av cx 99 [.imm (l.map (aa.int .i64)),.int .i64 ((q:Nat):Int),.int .i64 (d)] [] (clQ (ak l d.toNat q)):=by
 induction hN:d.toNat using Nat.strongRecOn generalizing q d with|_ N ih =>
 rw [<- hN];have ihP:∀ q':Nat,0<d->(q':Int)+100 * (d - 1)<=1000000->ae cx 99 [.imm (l.map (.int .i64)),.int .i64 (q':Nat),.int .i64 (d - 1)] (ak l (d - 1).toNat q').v:=fun q' h1 h2=>HF (ih _ oq q' (d - 1) h2 oq rfl)
 have hnm:=Ea;have hpk:=bb l q 8 dq;have htm:=sk hpk.1 (show (0:Int)<5 by decide);have hsm:=fun q=>m1 l (d - 1).toNat q oq
 refine ed (cx:=cx) 71 0 [(ResultVar.cell 6 43)] Tryz.func99 rfl rfl rfl rfl rfl zq ?_;show wpA cx 71 0 (at_ c99 []) _ _ _;refine zZ (fun _=>[(jo l),(1,nI q),(2,.int .i64 (d))]) (fun _=>[]) ?_ ?_;apply zW 1 (mU jf) (mH [] [.box fQ]);apply zV 2;refine qP (bu l q 8 bH bH) aG aG aG kq ?_;have hv1:=bb l q 8 dq;apply zR 1 (mU [(7,.int .i64 (ah l q 8))]) id;apply ai;apply zW 2 (mU [(15,.bool ((d)==0))]) id;by_cases hb2:(d)=0;apply qt (beq_iff_eq.2 hb2);apply qo;apply qr 1;refine qy (Dt (a:=(ah l q 8)) (b:=5) kq dq) ?_ ?_ ?_;refine qR 1 [(jo l),(1,nI q),(2,.int .i64 (d)),(6,.ptr 0 0),(7,.int .i64 (uP l q))] [.box fQ] ?_ ?_;apply ai;apply zW 1 (mU [(18,.int .i64 (uP l q))]) id;apply qB 0;apply ai;apply zW 2 (mU [(19,.bool ((uP l q)==0))]) id;by_cases hb3:((ah l q 8).tmod 5)=0;apply qt (beq_iff_eq.2 hb3);apply qK;apply zZ id id;apply qt (beq_iff_eq.2 hb3);refine zW 3 (fun _=>jf) (fun _=>(JJ l q)) ?_ ?_;refine aJ kq ?_;apply iR;apply aR;refine fm (l:=(P6 l q)) 0 [] (.inr rfl) kq (Nat.zero_le _) kq oQ nW ?_
 rotate_left
 iterate 5 kernel_rfl
 apply qf (beq_eq_false_iff_ne.2 hb3);apply zW 2 (mU [(19,.bool ((uP l q)==1))]) id;by_cases hb5:((ah l q 8).tmod 5)=1;apply qt (beq_iff_eq.2 hb5);apply qK;apply zZ id id;apply qt (beq_iff_eq.2 hb5);refine zW 3 (fun _=>jf) (fun _=>(JJ l q)) ?_ ?_;refine aJ kq ?_;apply iR;apply aR;refine fm (l:=(P6 l q)) 0 [] (.inr rfl) kq (Nat.zero_le _) kq oQ nW ?_
 rotate_left
 iterate 5 kernel_rfl
 apply qf (beq_eq_false_iff_ne.2 hb5);apply qo;refine qR 2 [(jo l),(1,nI q),(2,.int .i64 (d)),(6,.ptr 0 0),(7,.int .i64 (uP l q)),(18,.int .i64 (uP l q)),(19,.bool ((uP l q)==2))] [.box fQ] ?_ ?_;by_cases hb7:((ah l q 8).tmod 5)=2;apply qt (beq_iff_eq.2 hb7);refine zW 3 (fun _=>jf) (fun _=>(JJ l q)) ?_ ?_;refine aJ kq ?_;apply iR;apply aR;refine fm (l:=(P6 l q)) 0 [] (.inr rfl) kq (Nat.zero_le _) kq oQ nW ?_
 rotate_left
 iterate 2 kernel_rfl
 apply qf (beq_eq_false_iff_ne.2 hb7);apply zW 2 (mT [(25,.bool ((uP l q)==3))] [7,19]) id;by_cases hb8:((ah l q 8).tmod 5)=3;apply qt (beq_iff_eq.2 hb8);refine zW 2 (fun _=>jf) (fun _=>Im) ?_ ?_;refine aJ kq ?_;apply iR;apply aR;refine fm (l:=[.agg [.int .i64 3,.str [67,111,108,111,114],.int .i64 0,.full [],.full []]]) 0 [] (.inr rfl) kq (Nat.zero_le _) kq oQ nW ?_
 rotate_left
 iterate 2 kernel_rfl
 apply qf (beq_eq_false_iff_ne.2 hb8);apply zW 2 (mT [(28,.bool ((uP l q)==4))] [25]) id;by_cases hb9:((ah l q 8).tmod 5)=4;apply qt (beq_iff_eq.2 hb9);refine zW 2 (fun _=>jf) (fun _=>Pq) ?_ ?_;refine aJ kq ?_;apply iR;apply aR;refine fm (l:=[.agg [.int .i64 3,.str [83,104,97,112,101],.int .i64 0,.full [],.full []]]) 0 [] (.inr rfl) kq (Nat.zero_le _) kq oQ nW ?_
 rotate_left
 iterate 2 kernel_rfl
 . exfalso;omega
 iterate 21 kernel_rfl
 apply qf (beq_eq_false_iff_ne.2 hb2);apply qK;apply zZ (mT [] [15]) id;apply ai;apply zW 1 (mU [(18,.int .i64 (ah l q 8))]) id;apply qB 0;apply ai;apply zW 2 (mU [(19,.bool ((ah l q 8)==0))]) id;by_cases hb10:(ah l q 8)=0;apply qt (beq_iff_eq.2 hb10);apply qK;apply zZ id id;apply qt (beq_iff_eq.2 hb10);refine zW 3 (fun _=>jf) (fun _=>(Qf l q)) ?_ ?_;refine aJ kq ?_;apply iR;apply aR;refine fm (l:=(QT l q)) 0 [] (.inr rfl) kq (Nat.zero_le _) kq oQ nW ?_
 rotate_left
 iterate 5 kernel_rfl
 apply qf (beq_eq_false_iff_ne.2 hb10);apply zW 2 (mU [(19,.bool ((ah l q 8)==1))]) id;by_cases hb12:(ah l q 8)=1;apply qt (beq_iff_eq.2 hb12);apply qK;apply zZ id id;apply qt (beq_iff_eq.2 hb12);refine zW 3 (fun _=>jf) (fun _=>(Qf l q)) ?_ ?_;refine aJ kq ?_;apply iR;apply aR;refine fm (l:=(QT l q)) 0 [] (.inr rfl) kq (Nat.zero_le _) kq oQ nW ?_
 rotate_left
 iterate 5 kernel_rfl
 apply qf (beq_eq_false_iff_ne.2 hb12);apply qo;refine qR 2 [(jo l),(1,nI q),(2,.int .i64 (d)),(6,.ptr 0 0),(7,.int .i64 (ah l q 8)),(18,.int .i64 (ah l q 8)),(19,.bool ((ah l q 8)==2))] [.box fQ] ?_ ?_;by_cases hb14:(ah l q 8)=2;apply qt (beq_iff_eq.2 hb14);refine zW 3 (fun _=>jf) (fun _=>(Qf l q)) ?_ ?_;refine aJ kq ?_;apply iR;apply aR;refine fm (l:=(QT l q)) 0 [] (.inr rfl) kq (Nat.zero_le _) kq oQ nW ?_
 rotate_left
 iterate 2 kernel_rfl
 apply qf (beq_eq_false_iff_ne.2 hb14);apply zW 2 (mT [(25,.bool ((ah l q 8)==3))] [7,19]) id;by_cases hb15:(ah l q 8)=3;apply qt (beq_iff_eq.2 hb15);refine zW 2 (fun _=>jf) (fun _=>Im) ?_ ?_;refine aJ kq ?_;apply iR;apply aR;refine fm (l:=[.agg [.int .i64 3,.str [67,111,108,111,114],.int .i64 0,.full [],.full []]]) 0 [] (.inr rfl) kq (Nat.zero_le _) kq oQ nW ?_
 rotate_left
 iterate 2 kernel_rfl
 apply qf (beq_eq_false_iff_ne.2 hb15);apply zW 2 (mT [(28,.bool ((ah l q 8)==4))] [25]) id;by_cases hb16:(ah l q 8)=4;apply qt (beq_iff_eq.2 hb16);refine zW 2 (fun _=>jf) (fun _=>Pq) ?_ ?_;refine aJ kq ?_;apply iR;apply aR;refine fm (l:=[.agg [.int .i64 3,.str [83,104,97,112,101],.int .i64 0,.full [],.full []]]) 0 [] (.inr rfl) kq (Nat.zero_le _) kq oQ nW ?_
 rotate_left
 iterate 2 kernel_rfl
 apply qf (beq_eq_false_iff_ne.2 hb16);apply zW 2 (mT [(31,.bool ((ah l q 8)==5))] [18,28]) id;by_cases hb17:(ah l q 8)=5;apply qt (beq_iff_eq.2 hb17);apply zV 2;refine qy (az (a:=((q:Nat):Int)) (b:=1) kq bH bH) ?_ ?_ ?_;apply qr 1;refine qy (eZ (a:=(d)) (b:=1) kq bH bH) ?_ ?_ ?_;refine qP (ihP (q+1) bH bH) aG aG aG kq ?_;refine zR 3 (fun _=>jf) (fun _=>[.box [.int .i64 4,.str [],.int .i64 0,.full [],.full [Ty.v (ak l (d - 1).toNat (q+1))]]]) ?_ ?_;refine aJ kq ?_;apply iR;apply aR;refine fm (l:=[.agg [.int .i64 4,.str [],.int .i64 0,.full [],.full [Ty.v (ak l (d - 1).toNat (q+1))]]]) 0 [] (.inr rfl) kq (Nat.zero_le _) kq oQ nW ?_
 . rw [wa oq aq];exact .inr ⟨by simp [Ty.kind],by simp [aZ,aa.frz,aN,Ty.v,Ty.kind,Ty.name,Ty.n,Ty.names,Ty.kids,Ty.enc_v]⟩
 iterate 8 kernel_rfl
 apply qf (beq_eq_false_iff_ne.2 hb17);refine qk ?_ ?_;refine ag ?_;apply ab;apply zZ (mT [] [31]) id;apply zW 3 (mU [(8,.ptr 1 0)]) (mH [] [.box [.int .i64 5,.str [],.int .i64 0,.full [],.full []]]);apply zV 2;refine qy (az (a:=((q:Nat):Int)) (b:=1) kq bH bH) ?_ ?_ ?_;refine qP (bu l (q+1) 16 bH bH) aG aG aG kq ?_;have hv18:=bb l (q+1) 16 dq;apply zR 1 (mU [(9,.int .i64 (ah l (q+1) 16))]) id;apply ai;apply zW 1 (mU [(10,.int .i64 0)]) id;refine dY 1 3 (cs:=[.int .i64 5,.str [],.int .i64 0,.full [],.full []]) (y:=.full []) [.int .i64 5,.str [],.int .i64 0,.imm [],.full []] kq kq zq (by simp [List.set,aa.frz,aN]) ?_;refine wu 1 4 5 (cs:=[.int .i64 5,.str [],.int .i64 0,.imm [],.full []]) [.int .i64 5,.str [],.int .i64 0,.imm [],.own 2 0 0] dq kq kq kq ?_;apply zZ id (mO [(1,.box [.int .i64 5,.str [],.int .i64 0,.imm [],.own 2 0 0]),(2,.arr 5 (([]:List (Ty)).map Ty.enc) 0)]);apply qB 1;refine aT (σ:=(Nat×Int×Ty)) (fun ⟨i,w,o⟩=>(HS l q d w i)) (fun ⟨i,w,o⟩=>[.box fQ,.box (N1 o),.arr 5 (x5 o) 0]) (fun ⟨i,w,o⟩=>(i<=4/\0<=w/\w<16)/\(o.kind=5/\o.names.length=o.kids.length/\o.sz<=1+i * 20000)/\nw (fun i=>ak l (d - 1).toNat (q+2+3 * i)) (4 - i) i w o=ak l d.toNat q) (fun ⟨i,w,o⟩=>4 - i) (0,ah l (q+1) 16,GW) kq (by have:=bb l (q+1) 16 dq;exact ⟨⟨by omega,this.1,this.2⟩,⟨rfl,rfl,by decide⟩,(Gl oq oq).symm⟩) (fg kq kq aA (by simp [am.belO])) ?_;rintro ⟨i,w,o⟩ ⟨⟨hi,hw0,hw1⟩,⟨ho5,hnk,hosz⟩,hR⟩;have hwd:=Oi hw0 hw1;refine zZ (fun _=>(HS l q d w i)) (fun _=>[.box fQ,.box (N1 o),.arr 5 (x5 o) 0]) ?_ ?_;apply ai;apply zW 2 (mU [(47,.bool (decide (((i:Nat):Int)<4)))]) id;by_cases hb19:((i:Nat):Int)<4;apply qt (decide_eq_true hb19);apply qK;apply zZ (mT [] [47]) id;apply ai;apply qB 2;apply ai;apply zV 1;refine qy (Dt (a:=(w)) (b:=2) kq dq) ?_ ?_ ?_;apply zR 1 (mU [(52,.bool (((w).tmod 2)==1))]) id;by_cases hb20:((w).tmod 2)=1;apply qt (beq_iff_eq.2 hb20);refine zD cxM kq ax ?_;apply qu 1;refine qQ (qv) (kq) kq kq kq ?_;apply qu 1;refine qd (au (k:=.i64) (l:=nms) (enc:=aa.str) (i:=((i:Nat):Int)) [] kq a6 ty9 (fun _=>rfl) bH bH) ?_ ?_ ?_ ?_;apply qu 3;refine qd (az (a:=((q:Nat):Int)) (b:=2) kq bH bH) ?_ ?_ ?_ ?_;apply qu 1;refine qd (AQ (a:=3) (b:=((i:Nat):Int)) kq bH bH) ?_ ?_ ?_ ?_;refine qd (az (a:=(((q+2):Nat):Int)) (b:=(((3 * i):Nat):Int)) kq bH bH) ?_ ?_ ?_ ?_;apply qu 1;refine qd (eZ (a:=(d)) (b:=1) kq bH bH) ?_ ?_ ?_ ?_;refine qQ (ihP ((q+2)+(3 * i)) bH bH) aG aG aG kq ?_;refine Ri (args:=[.agg (Qc o),.str (nms.getD i []),Ty.v (ak l (d - 1).toNat ((q+2)+(3 * i)))]) (args':=[Ty.v o,.str (nms.getD i []),Ty.v (ak l (d - 1).toNat ((q+2)+(3 * i)))]) (V':=.agg [.int .i64 5,.str [],.int .i64 (o.n),.imm ((vb o (nms.getD i [])).map aa.str),.own 3 0 (tw o (nms.getD i []) (ak l (d - 1).toNat ((q+2)+(3 * i)))).length]) (F:=[.box [.int .i64 0,.str [],.int .i64 0,.full [],.full []],.box (Qc o),.arr 5 (x5 o) (x5 o).length]) (G':=[.arr 5 ((tw o (nms.getD i []) (ak l (d - 1).toNat ((q+2)+(3 * i)))).map Ty.enc) 0]) (L:=[2,3]) kq kq kq kq kq (MT o (ak l (d - 1).toNat ((q+2)+(3 * i))) (nms.getD i []) oq (by first|omega|(have:=hsm (q+2+3 * i);omega)) aq) [.box [.int .i64 0,.str [],.int .i64 0,.full [],.full []],.box (Qc o),.arr 5 (x5 o) 0] kq JA JA (by simp [l7]) JA JA JA (by first|(simp [tz,aF,aa.owns,ou,l7,Ty.v];done)|(simp [tz,aF,aa.owns,ou,l7,Ty.v];decide)) ?_;apply qu 1;refine bY kq ⟨kq,?_⟩;refine zE (fun _=>(HS l q d w i)) (fun _=>[.box fQ,.box [.int .i64 5,.str [],.int .i64 (o.n),.imm ((vb o (nms.getD i [])).map aa.str),.own 3 0 (N7 o i l d q).length],.arr 5 (x5 o) (x5 o).length,.arr 5 ((N7 o i l d q).map Ty.enc) 0]) ?_ ?_;refine Ai [0,1,3] (HS l q d w i) (UJ o i l d q) dq mY mY mY mY ?_;refine zZ (fun _=>(HS l q d w i)) (fun _=>(UJ o i l d q)) ?_ ?_;apply qo;apply qr 1;refine qy (PC (a:=(w)) (b:=2) kq dq bH bH) ?_ ?_ ?_;apply qr 1;apply qe;refine ag ?_;apply ab;refine zZ (fun _=>[(jo l),(1,nI q),(2,.int .i64 (d)),(6,.ptr 0 0),(8,.ptr 1 0),(9,.int .i64 ((w).tdiv 2)),(10,nI i)]) id ?_ ?_;apply qo;apply qr 1;refine qy (az (a:=((i:Nat):Int)) (b:=1) kq bH bH) ?_ ?_ ?_;apply qr 1;apply qe;refine ab ⟨(i+1,w.tdiv 2,(rC o (nms.getD i []) (ak l (d - 1).toNat (q+2+3 * i)))),?_,?_,(fg kq kq aA (by simp [am.belO]))⟩
 . try dsimp only
   omega
 . try dsimp only
   first|(refine ⟨⟨by omega,hwd.1,hwd.2⟩,⟨ho5,hnk,?_⟩,?_⟩;(exact yO hosz);rw [<- hR,mu _ i w o oq,if_neg aq];done)|(refine ⟨⟨by omega,hwd.1,hwd.2⟩,⟨rfl,yn _ _ _ hnk,?_⟩,?_⟩;(have h1:=yg o (nms.getD i []) (ak l (d - 1).toNat (q+2+3 * i));have h2:=hsm (q+2+3 * i);have h3:=BB i;omega);(rw [<- hR,mu _ i w o oq,if_pos aq]);done)
 iterate 37 kernel_rfl
 apply qf (beq_eq_false_iff_ne.2 hb20);apply qK;apply zZ (mT [] [52]) id;apply qo;apply qr 1;refine qy (PC (a:=(w)) (b:=2) kq dq bH bH) ?_ ?_ ?_;apply qr 1;apply qe;refine ag ?_;apply ab;refine zZ (fun _=>[(jo l),(1,nI q),(2,.int .i64 (d)),(6,.ptr 0 0),(8,.ptr 1 0),(9,.int .i64 ((w).tdiv 2)),(10,nI i)]) id ?_ ?_;apply qo;apply qr 1;refine qy (az (a:=((i:Nat):Int)) (b:=1) kq bH bH) ?_ ?_ ?_;apply qr 1;apply qe;refine ab ⟨(i+1,w.tdiv 2,o),?_,?_,(fg kq kq aA (by simp [am.belO]))⟩
 . try dsimp only
   omega
 . try dsimp only
   first|(refine ⟨⟨by omega,hwd.1,hwd.2⟩,⟨ho5,hnk,?_⟩,?_⟩;(exact yO hosz);rw [<- hR,mu _ i w o oq,if_neg aq];done)|(refine ⟨⟨by omega,hwd.1,hwd.2⟩,⟨rfl,yn _ _ _ hnk,?_⟩,?_⟩;(have h1:=yg o (nms.getD i []) (ak l (d - 1).toNat (q+2+3 * i));have h2:=hsm (q+2+3 * i);have h3:=BB i;omega);(rw [<- hR,mu _ i w o oq,if_pos aq]);done)
 iterate 27 kernel_rfl
 apply qf (decide_eq_false hb19);refine aK 1 kq kq ?_;apply ac;apply ac;refine ao ?_;apply ab;apply zZ (mT [] [0,1,2,9,10,47]) id;refine zW 2 (fun _=>jf) (fun _=>[.box (N1 o),.box (N1 o),.arr 5 (x5 o) 0]) ?_ ?_;refine Ai [2,0] [(6,.ptr 1 0)] (Ud o) dq mY mY mY mY ?_;refine zZ (fun _=>[(6,.ptr 1 0)]) (fun _=>(Ud o)) ?_ ?_;refine aJ kq ?_;refine fm (l:=[.agg [.int .i64 (o.kind),.str o.name,.int .i64 (o.n),.imm (o.names.map aa.str),.own 0 0 o.kids.length]]) 1 [.arr 5 (x5 o) 0] (.inr rfl) kq (Nat.zero_le _) kq oQ nW ?_
 . rw [show 4 - i=0 by omega,nw] at hR;rw [<- hR];exact .inl ⟨ho5,rfl,rfl⟩
 iterate 46 kernel_rfl
 all_goals
  first|exact zv (k:=(ah l q 8).tmod 5) (FSa oq) oq UC|exact zv (k:=ah l q 8) (wl oq oq) oq UC
theorem BK (l:List Int) (q:Nat) (d:Int) (hl:jU l) (hq:(q:Int)+100 * d<=1000000) (hd:0<=d/\d<=2):av cx 99 (K0 l q d) [] (clQ (ak l d.toNat q)):=Ak l q d hl hq ⟨hd.1,by omega⟩
abbrev ej :=List UInt8
theorem Mf (l:List ej) (s:List UInt8):-1<=dJ l s/\dJ l s<(l.length:Nat)\/l=[]/\dJ l s=-1:=by
 unfold dJ;split
 . rename_i i hi;obtain ⟨h1,_⟩:=List.findIdx?_eq_some_iff_getElem.1 hi;left;omega
 . cases l with
   | nil=>right;exact ⟨rfl,rfl⟩
   | cons=>left;simp;omega
theorem Au (l:List ej) (s:List UInt8) (hn:l.length<1000000000):ae cx 100 [.imm (l.map aa.str),.str s] (.int .i64 (dJ l s)):=by
 refine fI 19 0 [(ResultVar.tmp 4)] Tryz.func100 kq ?_;refine zZ (fun _=>[(0,.imm (l.map aa.str)),(1,.str s)]) (fun _=>[]) ?_ ?_;apply zW 1 id id;apply ai;apply zW 1 (mU [(5,.int .i64 0)]) id;apply qB 0;refine aT (σ:=Nat) (fun k=>[(0,.imm (l.map aa.str)),(1,.str s),(5,nI k)]) (fun k=>[]) (fun k=>k<=l.length/\∀ i,i<k->¬ s=l.getD i []) (fun k=>l.length - k) 0 kq zq (fg kq kq aA zq) ?_;rintro k ⟨hk,ha⟩;apply ai;apply zV 2;refine qy (aj (l:=l) (enc:=aa.str) kq a6) ?_ ?_ ?_;apply zR 1 (mU [(9,.bool (decide (((k:Nat):Int)<((l.length:Nat):Int))))]) id;by_cases hb1:((k:Nat):Int)<((l.length:Nat):Int);apply qt (decide_eq_true hb1);apply qK;apply zZ (mT [] [9]) id;apply ai;apply qB 1;apply zV 2;refine qy (au (k:=.i64) (l:=l) (enc:=aa.str) (i:=((k:Nat):Int)) [] kq a6 ty9 (fun _=>rfl) oq oq) ?_ ?_ ?_;refine zR 3 (fun _=>[(0,.imm (l.map aa.str)),(1,.str s),(5,nI k),(17,.bool ((l.getD k [])==s))]) (fun _=>[]) ?_ ?_;by_cases hb2:(l.getD k [])=s;apply qt (beq_iff_eq.2 hb2);apply zV 2;refine qT ?_ ?_;apply iR;apply aR;apply aR;apply iR;apply aR;refine dm (n:=((k:Nat):Int)) (.inr rfl) kq ?_
 rotate_left
 iterate 3 kernel_rfl
 apply qf (beq_eq_false_iff_ne.2 hb2);refine qk ?_ ?_;refine ag ?_;apply ab;apply zZ (mT [] [17]) id;apply qo;apply qr 1;refine qy (az (a:=((k:Nat):Int)) (b:=1) kq oq oq) ?_ ?_ ?_;apply qr 1;apply qe;refine ab ⟨k+1,?_,?_,(fg kq kq aA zq)⟩
 . omega
 . refine ⟨by omega,fun i hi=>?_⟩;rcases Nat.lt_succ_iff_lt_or_eq.1 hi with h|h
   . exact ha i h
   . subst h;intro hc;exact absurd hc.symm aq
 iterate 19 kernel_rfl
 apply qf (decide_eq_false hb1);refine aK 0 kq kq ?_;apply ac;apply ac;refine ao ?_;apply ab;refine zZ (fun _=>[]) (fun _=>[]) ?_ ?_;apply zV 1;refine qT ?_ ?_;refine dm (n:=(-1)) (.inr rfl) kq ?_
 rotate_left
 iterate 15 kernel_rfl
 all_goals
  first|exact pK oq ha (Eq.symm aq)|exact pf (fun i hi=>ha i oq)
@[simp] theorem Ty.kind_mk (k:Int) (x:List UInt8) (n:Int) (l:List ej) (ks:List Ty):(Ty.mk k x n l ks).kind=k:=rfl
@[simp] theorem Ty.name_mk (k:Int) (x:List UInt8) (n:Int) (l:List ej) (ks:List Ty):(Ty.mk k x n l ks).name=x:=rfl
@[simp] theorem Ty.n_mk (k:Int) (x:List UInt8) (n:Int) (l:List ej) (ks:List Ty):(Ty.mk k x n l ks).n=n:=rfl
@[simp] theorem Ty.names_mk (k:Int) (x:List UInt8) (n:Int) (l:List ej) (ks:List Ty):(Ty.mk k x n l ks).names=l:=rfl
@[simp] theorem Ty.kids_mk (k:Int) (x:List UInt8) (n:Int) (l:List ej) (ks:List Ty):(Ty.mk k x n l ks).kids=ks:=rfl
theorem Jq {t x:Ty} {h:af} (h4:t.kind=4):(aZ [.agg [.int .i64 t.kind,.str t.name,.int .i64 t.n,.imm (t.names.map aa.str),.full [x.v]]]).frz h=(Ty.mk 4 t.name t.n t.names [x]).v/\(Ty.mk 4 t.name t.n t.names [x]).v.bel 0=true:=by
 refine ⟨?_,by simp⟩;rw [h4];have e:(Ty.mk 4 t.name t.n t.names [x]).v=.agg [.int .i64 4,.str t.name,.int .i64 t.n,.imm (t.names.map .str),.imm [x.enc]]:=rfl;rw [e,Ty.enc_v];simp only [aZ,aa.frz,aN,pU,Na]
theorem QH (t:Ty):t.enc.cells.length=5/\t.enc.cells.all aa.cellOk=true:=by rw [dz];exact ⟨rfl,rfl⟩
theorem K8 (p q:Ty):p.enc.withCells q.enc.cells=some q.enc:=by rw [Ty.enc_v,Ty.enc_v];rfl
theorem JO {l:List Int} {q:Nat} {d:Int} (hl:jU l) (hq:(q:Int)+100 * d<=1000000) (hd:0<=d/\d<=2):av cx 99 (K0 l q d) [] (fun v h=>((ak l d.toNat q).kind=5/\v=C3 (ak l d.toNat q)/\h=C1 (ak l d.toNat q))\/(¬ (ak l d.toNat q).kind=5/\v=(ak l d.toNat q).v/\h=[])):=by
 refine rk (BK l q d hl hq hd) ?_;rintro v h (h1|h1)
 . exact .inl (.inl h1)
 . exact .inr ⟨by rw [h1.2];simp,.inr ⟨h1.1,h1.2,rfl⟩⟩
theorem Ez (kid:Nat->Ty):∀ f i w o,o.names.length=o.kids.length->(nw kid f i w o).names.length=(nw kid f i w o).kids.length
 | 0,i,w,o,h=>h
 | f+1,i,w,o,h=>by
  simp only [nw];refine Ez kid f _ _ _ ?_;split
  . exact yn _ _ _ h
  . exact h
theorem BG (l:List Int) (d q:Nat) (h:(ak l d q).kind=5):(ak l d q).names.length=(ak l d q).kids.length:=by
 have hb:∀ k,(ia k).names.length=(ia k).kids.length:=by
  intro k;unfold ia;split
  . rfl
  . split <;> rfl
 cases d with
 | zero=>exact hb _
 | succ d =>
  unfold ak at h ⊢;split
  . exact hb _
  . split
    . rename_i h1 h2;rw [if_neg h1,if_pos h2] at h;simp [Ty.kind] at h
    . exact Ez _ _ _ _ _ rfl
def opF (names:List (List UInt8)) (kid:Nat->Ty):Nat->Nat->Int->List Ty->Int×List Ty
 | 0,_,m,ks=>(m,ks)
 | f+1,i,m,ks=>if dJ names (nms.getD i []) >= 0 then opF names kid f (i+1) (2 * m+1) (ks.set (dJ names (nms.getD i [])).toNat (kid i)) else opF names kid f (i+1) (2 * m) ks
def bP (l:List Int):Nat->Nat->Ty
 | 0,q=>if ah l (q+7) 5=0 then .mk 6 [] (1+ah l (q+8) 2) [] [] else ak l 0 q
 | d+1,q=>if ah l (q+7) 5=0 then .mk 6 [] (1+ah l (q+8) 2) [] []
  else if (ak l (d+1) q).kind=4 then .mk 4 (ak l (d+1) q).name (ak l (d+1) q).n (ak l (d+1) q).names [bP l d (q+1)]
  else if (ak l (d+1) q).kind=5 then
   .mk 5 (ak l (d+1) q).name (if ah l (q+7) 5<3 then 11+(opF (ak l (d+1) q).names (fun i=>bP l d (q+3+i)) 4 0 0 (ak l (d+1) q).kids).1 else (ak l (d+1) q).n) (ak l (d+1) q).names
    (opF (ak l (d+1) q).names (fun i=>bP l d (q+3+i)) 4 0 0 (ak l (d+1) q).kids).2
  else ak l (d+1) q
theorem QJ (i:Nat) (h:i<=4):(2:Int) ^ i<=16:=by
 match i,h with
 | 0,_=>decide
 | 1,_=>decide
 | 2,_=>decide
 | 3,_=>decide
 | 4,_=>decide
abbrev ru (i:Nat):=nms.getD i []
theorem Ot {names:List ej} {kid:Nat->Ty} {i:Nat} {m:Int} {ks:List Ty} (h:i<4) (hx:dJ names (ru i) >= 0):opF names kid (4 - i) i m ks=opF names kid (4 - (i+1)) (i+1) (2 * m+1) (ks.set (dJ names (ru i)).toNat (kid i)):=by
 rw [show 4 - i=(4 - (i+1))+1 by omega,opF,if_pos hx]
theorem O6 {names:List ej} {kid:Nat->Ty} {i:Nat} {m:Int} {ks:List Ty} (h:i<4) (hx:¬ dJ names (ru i) >= 0):opF names kid (4 - i) i m ks=opF names kid (4 - (i+1)) (i+1) (2 * m) ks:=by
 rw [show 4 - i=(4 - (i+1))+1 by omega,opF,if_neg hx]
theorem M7 {l:List Int} {q:Nat} {d:Int} (hk:ah l (q+7) 5=0):bP l d.toNat q=.mk 6 [] (1+ah l (q+8) 2) [] []:=by
 cases d.toNat <;> rw [bP,if_pos hk]
theorem Mt {l:List Int} {q:Nat} {d:Int} (hk:¬ ah l (q+7) 5=0) (hd:¬ d > 0\/(¬ (ak l d.toNat q).kind=4/\¬ (ak l d.toNat q).kind=5)):bP l d.toNat q=ak l d.toNat q:=by
 by_cases h0:d > 0
 . rcases hd with h|⟨h4,h5⟩
   . exact absurd h0 h
   . rw [mJ h0] at h4 h5 ⊢;rw [bP,if_neg hk,if_neg h4,if_neg h5]
 . have:d.toNat=0:=by omega
   rw [this,bP,if_neg hk]
theorem Lj {l:List Int} {q:Nat} {d:Int} (hk:¬ ah l (q+7) 5=0) (h0:d > 0) (h4:(ak l d.toNat q).kind=4):bP l d.toNat q=.mk 4 (ak l d.toNat q).name (ak l d.toNat q).n (ak l d.toNat q).names [bP l (d - 1).toNat (q+1)]:=by
 rw [mJ h0] at h4 ⊢;rw [bP,if_neg hk,if_pos h4]
theorem NN {l:List Int} {q:Nat} {d:Int} (hk:¬ ah l (q+7) 5=0) (h0:d > 0) (h5:(ak l d.toNat q).kind=5):bP l d.toNat q=.mk 5 (ak l d.toNat q).name (if ah l (q+7) 5<3 then 11+(opF (ak l d.toNat q).names (fun i=>bP l (d - 1).toNat (q+3+i)) 4 0 0 (ak l d.toNat q).kids).1 else (ak l d.toNat q).n) (ak l d.toNat q).names (opF (ak l d.toNat q).names (fun i=>bP l (d - 1).toNat (q+3+i)) 4 0 0 (ak l d.toNat q).kids).2:=by
 rw [mJ h0] at h5 ⊢;rw [bP,if_neg hk,if_neg oq,if_pos h5]
abbrev uH (l:List Int)(d:Int)(q:Nat):List aa:=[.int .i64 ((ak l d.toNat q).kind),.str (ak l d.toNat q).name,.int .i64 ((ak l d.toNat q).n),.imm ((ak l d.toNat q).names.map aa.str),.own 1 0 (ak l d.toNat q).kids.length]
abbrev Q3 (l:List Int)(d:Int)(q:Nat):List aa:=[.int .i64 ((ak l d.toNat q).kind),.str (ak l d.toNat q).name,.int .i64 ((ak l d.toNat q).n),.imm ((ak l d.toNat q).names.map aa.str),.full [Ty.v (bP l (d - 1).toNat (q+1))]]
abbrev QY (l:List Int)(d:Int)(q:Nat)(m:Int):List aa:=[.int .i64 ((ak l d.toNat q).kind),.str (ak l d.toNat q).name,.int .i64 (11+(m)),.imm ((ak l d.toNat q).names.map aa.str),.own 1 0 (ak l d.toNat q).kids.length]
abbrev oh (l:List Int)(d:Int)(q:Nat):=(ak l d.toNat q)
abbrev FM (l:List Int)(q:Nat):Nat×aa:=(8,.int .i64 (ah l (q+7) 5))
theorem CV {p:Prop} (h:p:=by simp [aa.frz,aN,aa.ren,bX,gL,am.ren,cb,db,aF,aa.owns,C3,C1,Ty.v]):p:=h
abbrev Nf :=mT [] [0,1,2,8,49]
abbrev Lh (l:List Int)(q:Nat):List aa:=[.int .i64 6,.str [],.int .i64 (1+(ah l (q+8) 2)),.full [],.full []]
abbrev GJ (l:List Int)(d:Int)(q:Nat):=(ak l d.toNat q).names.map aa.str
theorem vh (l:List Int) (q:Nat) (d:Int) (hl:jU l) (hq:(q:Int)+100 * d<=900000) (hd:0<=d/\d<=2):ae cx 46 [.imm (l.map c4),.int .i64 ((q:Nat):Int),.int .i64 (d)] (Ty.v (bP l d.toNat q)):=by
 induction hN:d.toNat using Nat.strongRecOn generalizing q d with|_ N ih =>
 rw [<- hN];have ihO:∀ q':Nat,0<d->(q':Int)+100 * (d - 1)<=900000->ae cx 46 [.imm (l.map (.int .i64)),.int .i64 (q':Nat),.int .i64 (d - 1)] (bP l (d - 1).toNat q').v:=fun q' h1 h2=>ih _ oq q' (d - 1) h2 oq rfl
 have hnm:=Ea;have hsm:=fun q=>m1 l d.toNat q oq
 have hz1:=j3 (ak l d.toNat q);have hz2:=jD (ak l d.toNat q);refine fI 85 0 [(ResultVar.cell 6 43)] Tryz.func46 kq ?_;refine zZ (fun _=>[(jo l),(1,nI q),(2,.int .i64 (d))]) (fun _=>[]) ?_ ?_;refine zW 1 (fun _=>[(jo l),(1,nI q),(2,.int .i64 (d)),(6,.ptr 0 0)]) (fun _=>[.box fQ]) ?_ ?_;apply zV 3;refine PO (args:=[.imm (l.map c4),nI q,.int .i64 (d)]) (args':=[.imm (l.map c4),nI q,.int .i64 (d)]) (V1':=.agg (uH l d q)) (G1':=[.arr 5 ((oh l d q).kids.map Ty.enc) 0]) (V2':=Ty.v (oh l d q)) (G2':=[]) (F:=[.box fQ]) kq kq kq kq (JO hl oq hd) [.box fQ] kq CV CV CV CV CV CV CV ?_ ?_;intro h5;apply zR 2 (mU [(7,.ptr 2 0)]) (mH [] [.arr 5 ((oh l d q).kids.map Ty.enc) 0,.box (uH l d q)]);apply zV 2;refine qy (az (a:=((q:Nat):Int)) (b:=7) kq bH bH) ?_ ?_ ?_;refine qP (bu l (q+7) 5 bH bH) aG aG aG kq ?_;have hv1:=bb l (q+7) 5 dq;apply zR 1 (mU [(FM l q)]) id;apply ai;apply zW 2 (mU [(21,.bool ((ah l (q+7) 5)==0))]) id;by_cases hb2:(ah l (q+7) 5)=0;apply qt (beq_iff_eq.2 hb2);apply zV 2;refine qy (az (a:=((q:Nat):Int)) (b:=8) kq bH bH) ?_ ?_ ?_;refine qP (bu l (q+8) 2 bH bH) aG aG aG kq ?_;have hv3:=bb l (q+8) 2 dq;refine qy (az (a:=1) (b:=(ah l (q+8) 2)) kq bH bH) ?_ ?_ ?_;refine zR 2 (fun _=>jf) (fun _=>[.box (Lh l q),.arr 5 ((oh l d q).kids.map Ty.enc) 0,.box (uH l d q)]) ?_ ?_;refine aJ kq ?_;apply aR;refine cd (l:=[.agg (Lh l q)]) (.inr rfl) kq ?_
 rotate_left
 iterate 7 kernel_rfl
 apply qf (beq_eq_false_iff_ne.2 hb2);apply qK;apply zZ (mT [] [21]) id;apply ai;apply zV 4;by_cases hb4:((ak l d.toNat q).kind)=4
 . exfalso;omega
 refine zm [30,31] (beq_eq_false_iff_ne.2 hb4) ?_ ?_;apply zR 3 (mU [(34,.bool false)]) id;refine iu kq kq ?_;apply qK;apply zZ (mT [] [34]) id;apply ai;apply zV 4;by_cases hb5:((ak l d.toNat q).kind)=5;refine zm [45,46] (beq_iff_eq.2 hb5) ?_ ?_;apply zR 3 (mU [(49,.bool (decide ((d) > 0)))]) id;by_cases hb6:(d) > 0;apply qt (decide_eq_true hb6);apply zW 1 (mT [(9,.int .i64 0)] [49]) id;apply ai;apply zW 1 (mU [(10,.int .i64 0)]) id;apply qB 0;refine aT (σ:=(Nat×Int×List Ty)) (fun ⟨i,m,ks⟩=>[(jo l),(1,nI q),(2,.int .i64 (d)),(6,.ptr 0 0),(7,.ptr 2 0),(FM l q),(9,.int .i64 (m)),(10,nI i)]) (fun ⟨i,m,ks⟩=>[.box fQ,.arr 5 (ks.map Ty.enc) 0,.box (uH l d q)]) (fun ⟨i,m,ks⟩=>((i<=4/\0<=m/\m+1<=(2:Int) ^ i)/\ks.length=(ak l d.toNat q).kids.length)/\opF (ak l d.toNat q).names (fun i=>bP l (d - 1).toNat (q+3+i)) (4 - i) i m ks=(opF (ak l d.toNat q).names (fun i=>bP l (d - 1).toNat (q+3+i)) 4 0 0 (ak l d.toNat q).kids)) (fun ⟨i,m,ks⟩=>4 - i) (0,0,(ak l d.toNat q).kids) kq (by exact ⟨⟨⟨by omega,by omega,by decide⟩,rfl⟩,rfl⟩) (fg kq kq aA (by simp [am.belO,-List.map_set])) ?_;rintro ⟨i,m,ks⟩ ⟨⟨⟨hi,hm0,hm1⟩,hkl⟩,hR⟩;have hp:=QJ i hi;have hix:=Mf (ak l d.toNat q).names (ru i);have hnk2:=BG l d.toNat q h5;have hsq:=hsm q;refine zZ (fun _=>[(jo l),(1,nI q),(2,.int .i64 (d)),(6,.ptr 0 0),(7,.ptr 2 0),(FM l q),(9,.int .i64 (m)),(10,nI i)]) (fun _=>[.box fQ,.arr 5 (ks.map Ty.enc) 0,.box (uH l d q)]) ?_ ?_;apply ai;apply zW 2 (mU [(51,.bool (decide (((i:Nat):Int)<4)))]) id;by_cases hb7:((i:Nat):Int)<4;apply qt (decide_eq_true hb7);apply qK;apply zZ (mT [] [51]) id;apply ai;apply qB 1;apply ai;refine zD cxM kq ax ?_;apply qu 2;refine qQ (qv) (kq) kq kq kq ?_;apply qu 1;refine qd (au (k:=.i64) (l:=nms) (enc:=aa.str) (i:=((i:Nat):Int)) [] kq a6 ty9 (fun _=>rfl) bH bH) ?_ ?_ ?_ ?_;apply qu 1;refine qQ (Au ((ak l d.toNat q).names) (ru i) bH) aG aG aG kq ?_;apply qu 1;refine bY kq ⟨kq,?_⟩;refine zE (mU [(11,.int .i64 (dJ ((oh l d q).names) (ru i)))]) id ?_ ?_;apply zV 1;refine qy (AQ (a:=2) (b:=(m)) kq bH bH) ?_ ?_ ?_;apply zR 1 (mU [(9,.int .i64 (2 * (m)))]) id;apply zW 2 (mU [(64,.bool (decide ((dJ ((oh l d q).names) (ru i)) >= 0)))]) id;by_cases hb8:(dJ ((ak l d.toNat q).names) (ru i)) >= 0;apply qt (decide_eq_true hb8);apply zV 1;refine qy (az (a:=(2 * (m))) (b:=1) kq bH bH) ?_ ?_ ?_;apply zR 1 (mT [(9,.int .i64 ((2 * (m))+1))] [64]) id;refine zD cxM kq (df ax) ?_;apply qu 5;refine qd (az (a:=((q:Nat):Int)) (b:=3) kq bH bH) ?_ ?_ ?_ ?_;apply qu 1;refine qd (az (a:=(((q+3):Nat):Int)) (b:=((i:Nat):Int)) kq bH bH) ?_ ?_ ?_ ?_;apply qu 1;refine qd (eZ (a:=(d)) (b:=1) kq bH bH) ?_ ?_ ?_ ?_;refine qQ (ihO ((q+3)+i) bH bH) aG aG aG kq ?_;refine qd (bD (k:=.i64) (i:=(dJ ((ak l d.toNat q).names) (ru i))) (o:=1) (off:=0) (len:=((ak l d.toNat q).kids.length)) (sz:=5) (fr:=0) (es:=(ks.map Ty.enc)) kq dU il kq rfl (by simp [hkl]) bH bH) ?_ ?_ ?_ ?_;refine qD (ix (o:=1) (k:=((ks.map Ty.enc).length)) (x:=Ty.v (bP l (d - 1).toNat ((q+3)+i))) (enc:=Ty.enc) (l:=ks) (X:=(bP l (d - 1).toNat ((q+3)+i))) (d:=Ty.zero) (idx:=(0+((dJ ((ak l d.toNat q).names) (ru i))).toNat)) (sz:=5) kq (Ty.enc_v (bP l (d - 1).toNat ((q+3)+i))).symm kq zq bH il QH K8) ?_ ?_ ?_ ?_;refine bY kq ⟨kq,?_⟩;refine ag ?_;apply ab;refine zZ (fun _=>[(jo l),(1,nI q),(2,.int .i64 (d)),(6,.ptr 0 0),(7,.ptr 2 0),(FM l q),(9,.int .i64 ((2 * (m))+1)),(10,nI i)]) (fun _=>[.box fQ,.arr 5 ((ks.set (0+((dJ ((oh l d q).names) (ru i))).toNat) (bP l (d - 1).toNat ((q+3)+i))).map Ty.enc) 0,.box (uH l d q)]) ?_ ?_;apply qo;apply qr 1;refine qy (az (a:=((i:Nat):Int)) (b:=1) kq bH bH) ?_ ?_ ?_;apply qr 1;apply qe;refine ab ⟨(i+1,((2 * (m))+1),(ks.set (0+((dJ ((ak l d.toNat q).names) (ru i))).toNat) (bP l (d - 1).toNat ((q+3)+i)))),?_,?_,(fg kq kq aA (by simp [am.belO,-List.map_set]))⟩
 . try dsimp only
   omega
 . try dsimp only
   first|(refine ⟨⟨⟨by omega,by omega,by rw [Int.pow_succ];omega⟩,by simpa using hkl⟩,?_⟩;rw [<- hR,Ot (i:=i) (m:=m) (ks:=ks) oq aq];simp only [Nat.zero_add];done)|(refine ⟨⟨⟨by omega,by omega,by rw [Int.pow_succ];omega⟩,hkl⟩,?_⟩;rw [<- hR,O6 (i:=i) (m:=m) (ks:=ks) oq aq];done)
 iterate 30 kernel_rfl
 apply qf (decide_eq_false hb8);refine qk ?_ ?_;refine ag ?_;apply ab;apply zZ (mT [] [11,64]) id;apply qo;apply qr 1;refine qy (az (a:=((i:Nat):Int)) (b:=1) kq bH bH) ?_ ?_ ?_;apply qr 1;apply qe;refine ab ⟨(i+1,(2 * (m)),ks),?_,?_,(fg kq kq aA (by simp [am.belO,-List.map_set]))⟩
 . try dsimp only
   omega
 . try dsimp only
   first|(refine ⟨⟨⟨by omega,by omega,by rw [Int.pow_succ];omega⟩,by simpa using hkl⟩,?_⟩;rw [<- hR,Ot (i:=i) (m:=m) (ks:=ks) oq aq];simp only [Nat.zero_add];done)|(refine ⟨⟨⟨by omega,by omega,by rw [Int.pow_succ];omega⟩,hkl⟩,?_⟩;rw [<- hR,O6 (i:=i) (m:=m) (ks:=ks) oq aq];done)
 iterate 29 kernel_rfl
 apply qf (decide_eq_false hb7);refine aK 0 kq kq ?_;apply ac;apply ac;refine ao ?_;apply ab;apply zZ (mT [] [0,1,2,10,51]) id;apply zW 2 (mT [(80,.bool (decide ((ah l (q+7) 5)<3)))] [8]) id;by_cases hb9:(ah l (q+7) 5)<3;apply qt (decide_eq_true hb9);apply qo;apply qr 1;refine qy (az (a:=11) (b:=(m)) kq bH bH) ?_ ?_ ?_;refine qR 2 [(6,.ptr 0 0),(7,.ptr 2 0)] [.box fQ,.arr 5 (ks.map Ty.enc) 0,.box (QY l d q m)] ?_ ?_;refine zW 2 (fun _=>jf) (fun _=>[.box (QY l d q m),.arr 5 (ks.map Ty.enc) 0,.box (QY l d q m)]) ?_ ?_;refine aJ kq ?_;refine cd (l:=[.agg [.int .i64 ((ak l d.toNat q).kind),.str (ak l d.toNat q).name,.int .i64 (11+(m)),.imm (GJ l d q),.own 1 0 (ak l d.toNat q).kids.length]]) (.inr rfl) kq ?_
 rotate_left
 iterate 7 kernel_rfl
 apply qf (decide_eq_false hb9);apply qK;apply zZ (mT [] [9,80]) id;refine zW 2 (fun _=>jf) (fun _=>[.box (uH l d q),.arr 5 (ks.map Ty.enc) 0,.box (uH l d q)]) ?_ ?_;refine aJ kq ?_;refine cd (l:=[.agg [.int .i64 ((ak l d.toNat q).kind),.str (ak l d.toNat q).name,.int .i64 ((ak l d.toNat q).n),.imm (GJ l d q),.own 1 0 (ak l d.toNat q).kids.length]]) (.inr rfl) kq ?_
 rotate_left
 iterate 16 kernel_rfl
 apply qf (decide_eq_false hb6);apply qK;apply zZ Nf id;refine zW 2 (fun _=>jf) (fun _=>[.box (uH l d q),.arr 5 ((oh l d q).kids.map Ty.enc) 0,.box (uH l d q)]) ?_ ?_;refine aJ kq ?_;refine cd (l:=[.agg [.int .i64 ((ak l d.toNat q).kind),.str (ak l d.toNat q).name,.int .i64 ((ak l d.toNat q).n),.imm (GJ l d q),.own 1 0 (ak l d.toNat q).kids.length]]) (.inr rfl) kq ?_
 rotate_left
 iterate 6 kernel_rfl
 . exfalso;omega
 iterate 18 kernel_rfl
 intro n5;apply zR 2 (mU [(7,.ptr 1 0)]) (mH [] [(oh l d q).bx]);apply zV 2;refine qy (az (a:=((q:Nat):Int)) (b:=7) kq bH bH) ?_ ?_ ?_;refine qP (bu l (q+7) 5 bH bH) aG aG aG kq ?_;have hv10:=bb l (q+7) 5 dq;apply zR 1 (mU [(FM l q)]) id;apply ai;apply zW 2 (mU [(21,.bool ((ah l (q+7) 5)==0))]) id;by_cases hb11:(ah l (q+7) 5)=0;apply qt (beq_iff_eq.2 hb11);apply zV 2;refine qy (az (a:=((q:Nat):Int)) (b:=8) kq bH bH) ?_ ?_ ?_;refine qP (bu l (q+8) 2 bH bH) aG aG aG kq ?_;have hv12:=bb l (q+8) 2 dq;refine qy (az (a:=1) (b:=(ah l (q+8) 2)) kq bH bH) ?_ ?_ ?_;refine zR 2 (fun _=>jf) (fun _=>[.box (Lh l q),(oh l d q).bx]) ?_ ?_;refine aJ kq ?_;apply aR;refine cd (l:=[.agg (Lh l q)]) (.inr rfl) kq ?_
 rotate_left
 iterate 7 kernel_rfl
 apply qf (beq_eq_false_iff_ne.2 hb11);apply qK;apply zZ (mT [] [21]) id;apply ai;apply zV 4;by_cases hb13:((ak l d.toNat q).kind)=4;refine zm [30,31] (beq_iff_eq.2 hb13) ?_ ?_;apply zR 3 (mU [(34,.bool (decide ((d) > 0)))]) id;by_cases hb14:(d) > 0;apply qt (decide_eq_true hb14);apply qo;apply qr 2;refine qy (az (a:=((q:Nat):Int)) (b:=1) kq bH bH) ?_ ?_ ?_;apply qr 1;refine qy (eZ (a:=(d)) (b:=1) kq bH bH) ?_ ?_ ?_;refine qP (ihO (q+1) bH bH) aG aG aG kq ?_;refine qR 3 [(jo l),(1,nI q),(2,.int .i64 (d)),(6,.ptr 0 0),(7,.ptr 1 0),(FM l q)] [.box fQ,.box (Q3 l d q)] ?_ ?_;apply ai;apply zV 4;by_cases hb15:((ak l d.toNat q).kind)=5
 . exfalso;omega
 refine zm [45,46] (beq_eq_false_iff_ne.2 hb15) ?_ ?_;apply zR 3 (mU [(49,.bool false)]) id;refine iu kq kq ?_;apply qK;apply zZ Nf id;refine zW 2 (fun _=>jf) (fun _=>[.box (Q3 l d q),.box (Q3 l d q)]) ?_ ?_;refine aJ kq ?_;refine cd (l:=[.agg [.int .i64 ((ak l d.toNat q).kind),.str (ak l d.toNat q).name,.int .i64 ((ak l d.toNat q).n),.imm (GJ l d q),.full [Ty.v (bP l (d - 1).toNat (q+1))]]]) (.inr rfl) kq ?_
 rotate_left
 iterate 16 kernel_rfl
 apply qf (decide_eq_false hb14);apply qK;apply zZ (mT [] [34]) id;apply ai;apply zV 4;by_cases hb16:((ak l d.toNat q).kind)=5
 . exfalso;omega
 refine zm [45,46] (beq_eq_false_iff_ne.2 hb16) ?_ ?_;apply zR 3 (mU [(49,.bool false)]) id;refine iu kq kq ?_;apply qK;apply zZ Nf id;refine zW 2 (fun _=>jf) (fun _=>[(oh l d q).bx,(oh l d q).bx]) ?_ ?_;refine aJ kq ?_;refine cd (l:=[.agg [.int .i64 ((ak l d.toNat q).kind),.str (ak l d.toNat q).name,.int .i64 ((ak l d.toNat q).n),.imm (GJ l d q),.imm ((ak l d.toNat q).kids.map Ty.enc)]]) (.inr rfl) kq ?_
 rotate_left
 iterate 12 kernel_rfl
 refine zm [30,31] (beq_eq_false_iff_ne.2 hb13) ?_ ?_;apply zR 3 (mU [(34,.bool false)]) id;refine iu kq kq ?_;apply qK;apply zZ (mT [] [34]) id;apply ai;apply zV 4;by_cases hb17:((ak l d.toNat q).kind)=5
 . exfalso;omega
 refine zm [45,46] (beq_eq_false_iff_ne.2 hb17) ?_ ?_;apply zR 3 (mU [(49,.bool false)]) id;refine iu kq kq ?_;apply qK;apply zZ Nf id;refine zW 2 (fun _=>jf) (fun _=>[(oh l d q).bx,(oh l d q).bx]) ?_ ?_;refine aJ kq ?_;refine cd (l:=[.agg [.int .i64 ((ak l d.toNat q).kind),.str (ak l d.toNat q).name,.int .i64 ((ak l d.toNat q).n),.imm (GJ l d q),.imm ((ak l d.toNat q).kids.map Ty.enc)]]) (.inr rfl) kq ?_
 rotate_left
 iterate 26 kernel_rfl
 all_goals
  first|(rw [M7 aq];simp [aZ,aa.frz,aN,Ty.v,Ty.kind,Ty.name,Ty.n,Ty.names,Ty.kids];done)|(rw [Mt aq (by first|(left;assumption)|(left;omega)|(right;exact ⟨by assumption,by assumption⟩)|(right;exact ⟨by omega,by omega⟩))];simp [aZ,aa.frz,aN,Ty.v];done)|(rw [Lj (l:=l) (q:=q) (d:=d) aq oq aq];have h4:=(by assumption:(ak l d.toNat q).kind=4);exact Jq h4)|(rw [NN aq oq h5,<- hR,show 4 - i=0 by omega];(first|rw [if_pos aq]|rw [if_neg aq]);simp [opF,aZ,aa.frz,aN,Ty.v,hkl,h5];done)
def iO:Ty:=.mk 0 [] 0 [] []
def pC:Ty:=.mk 1 [] 0 [] []
def rp:Ty:=.mk 2 [] 0 [] []
def ut:Ty:=.mk 3 [67,111,108,111,114] 0 [] []
def tu:Ty:=.mk 3 [83,105,122,101] 0 [] []
def kY:List Ty:=[iO,pC]
def eX:List Sm:=[⟨[67,111,108,111,114],[⟨[82,101,100],false,iO⟩,⟨[66,108,117,101],false,iO⟩]⟩,⟨[83,105,122,101],[⟨[83,109,97,108,108],false,iO⟩,⟨[66,105,103],true,iO⟩]⟩]
def u5 (k n:Int):Ex:=.mk k [] n [] [] [] [] 0 0
def opX:Ex:=.mk 14 [60] 0 [] [] [] [.mk 3 [110] 0 [] [] [] [] 0 0,.mk 0 [] 9 [] [] [] [] 0 0] 0 0
def Cf (l:List Int):List Co:=[⟨[105,100],kY.getD (ah l 0 2).toNat Ty.zero⟩,⟨[110,97,109,101],pC⟩,⟨[111,112,101,110],rp⟩]
def plC (l:List Int):List Co:=if ah l 1 2=1 then Cf l++[⟨[99,111,108,111,114],ut⟩] else Cf l
def plT (l:List Int):Tb:=⟨[112,108,97,99,101],plC l,[[105,100]],[],u5 2 1⟩
def itC (l:List Int):List Co:=[⟨[105,100],iO⟩,⟨[110],iO⟩,⟨[97,116],((plC l).getD 0 Co.zero).type⟩,⟨[115,105,122,101],tu⟩]
def lw (l:List Int):List Rf:=if ah l 2 3 > 0 then [⟨[97,116],[112,108,97,99,101]⟩] else []
def itX (l:List Int):Ex:=if ah l 3 3=0 then opX else u5 2 1
def itT (l:List Int) (r:List Rf):Tb:=⟨[105,116,101,109],itC l,[[105,100]],r,itX l⟩
def shC:List Co:=[⟨[105,100],pC⟩,⟨[115,101,108,108,115],iO⟩,⟨[111,112,101,110],rp⟩]
def shR (l:List Int):List Rf:=if ah l 4 2=0 then [⟨[115,101,108,108,115],[105,116,101,109]⟩] else []
def shK (l:List Int):List (List UInt8):=if ah l 5 4=0 then [[105,100],[115,101,108,108,115]] else [[105,100]]
def shT (l:List Int):Tb:=⟨[115,104,111,112],shC,shK l,shR l,u5 2 1⟩
def ii (l:List Int):Sc:=if ah l 6 4=0 then ⟨eX,[itT l []]⟩ else if ah l 6 4=1 then ⟨eX,[itT l (lw l),plT l]⟩ else ⟨eX,[itT l (lw l),plT l,shT l]⟩
theorem ym (l:List Int):3<=(plC l).length:=by
 unfold plC Cf;split <;> simp
theorem He (s:List UInt8) :ae cx 45 [.str s] (Ex.v (Ex.mk 3 s 0 [] [] [] [] 0 0)):=by
 refine fI 5 0 [(ResultVar.cell 2 49)] Tryz.func45 kq ?_;refine zZ (fun _=>[(0,.str s)]) (fun _=>[]) ?_ ?_;apply zW 1 (mU [(2,.ptr 0 0)]) (mH [] [.box [.int .i64 0,.str [],.int .i64 0,.str [],.full [],.full [],.full [],.int .i64 0,.int .i64 0]]);refine zW 3 (fun _=>[(2,.ptr 0 0)]) (fun _=>[.box [.int .i64 3,.str s,.int .i64 0,.str [],.full [],.full [],.full [],.int .i64 0,.int .i64 0]]) ?_ ?_;refine aJ kq ?_;refine cd (l:=[.agg [.int .i64 3,.str s,.int .i64 0,.str [],.full [],.full [],.full [],.int .i64 0,.int .i64 0]]) (.inr rfl) kq ?_
 . simp [aZ,aa.frz,aN,Ex.v,Ex.kind,Ex.name,Ex.n,Ex.s,Ex.names,Ex.binds,Ex.kids,Ex.pos,Ex.fin]
 iterate 3 kernel_rfl
abbrev Jm (l:List Int):List aa:=[.agg [.str [105,100],.int .i64 ((kY.getD (((ah l 0 2)).toNat) Ty.zero).kind),.str (kY.getD (((ah l 0 2)).toNat) Ty.zero).name,.int .i64 ((kY.getD (((ah l 0 2)).toNat) Ty.zero).n),.imm ((kY.getD (((ah l 0 2)).toNat) Ty.zero).names.map aa.str),.imm ((kY.getD (((ah l 0 2)).toNat) Ty.zero).kids.map Ty.enc)],.agg [.str [110,97,109,101],.int .i64 1,.str [],.int .i64 0,.full [],.full []],.agg [.str [111,112,101,110],.int .i64 2,.str [],.int .i64 0,.full [],.full []],.agg [.str [99,111,108,111,114],.int .i64 3,.str [67,111,108,111,114],.int .i64 0,.full [],.full []]]
abbrev tJ (l:List Int):List aa:=[.str [112,108,97,99,101],.imm ((plC l).map Co.v),.full [.str [105,100]],.full [],.int .i64 2,.str [],.int .i64 1,.str [],.full [],.full [],.full [],.int .i64 0,.int .i64 0]
abbrev FY (l:List Int):List aa:=[.str [105,116,101,109],.imm ((itC l).map Co.v),.full [.str [105,100]],.imm ((lw l).map Rf.v),.int .i64 ((itX l).kind),.str (itX l).name,.int .i64 ((itX l).n),.str (itX l).s,.imm ((itX l).names.map aa.str),.imm ((itX l).binds.map aa.str),.imm ((itX l).kids.map Ex.enc),.int .i64 ((itX l).pos),.int .i64 ((itX l).fin)]
abbrev TK (l:List Int):List aa:=[.agg [.str [105,100],.int .i64 0,.str [],.int .i64 0,.full [],.full []],.agg [.str [110],.int .i64 0,.str [],.int .i64 0,.full [],.full []],.agg [.str [97,116],.int .i64 (((plC l).getD 0 Co.zero).type.kind),.str ((plC l).getD 0 Co.zero).type.name,.int .i64 (((plC l).getD 0 Co.zero).type.n),.imm (((plC l).getD 0 Co.zero).type.names.map aa.str),.imm (((plC l).getD 0 Co.zero).type.kids.map Ty.enc)],.agg [.str [115,105,122,101],.int .i64 3,.str [83,105,122,101],.int .i64 0,.full [],.full []]]
abbrev Uh (l:List Int):List aa:=[.agg [.str [105,100],.int .i64 ((kY.getD (((ah l 0 2)).toNat) Ty.zero).kind),.str (kY.getD (((ah l 0 2)).toNat) Ty.zero).name,.int .i64 ((kY.getD (((ah l 0 2)).toNat) Ty.zero).n),.imm ((kY.getD (((ah l 0 2)).toNat) Ty.zero).names.map aa.str),.imm ((kY.getD (((ah l 0 2)).toNat) Ty.zero).kids.map Ty.enc)],.agg [.str [110,97,109,101],.int .i64 1,.str [],.int .i64 0,.full [],.full []],.agg [.str [111,112,101,110],.int .i64 2,.str [],.int .i64 0,.full [],.full []]]
abbrev GA (l:List Int):List aa:=[.str [115,104,111,112],.imm (shC.map Co.v),.imm ((shK l).map aa.str),.imm ((shR l).map Rf.v),.int .i64 2,.str [],.int .i64 1,.str [],.full [],.full [],.full [],.int .i64 0,.int .i64 0]
abbrev RE (l:List Int):List aa:=[.str [105,116,101,109],.imm ((itC l).map Co.v),.full [.str [105,100]],.full [],.int .i64 ((itX l).kind),.str (itX l).name,.int .i64 ((itX l).n),.str (itX l).s,.imm ((itX l).names.map aa.str),.imm ((itX l).binds.map aa.str),.imm ((itX l).kids.map Ex.enc),.int .i64 ((itX l).pos),.int .i64 ((itX l).fin)]
abbrev uI :List aa:=[.int .i64 3,.str [83,105,122,101],.int .i64 0,.full [],.full []]
abbrev Nq :List aa:=[.int .i64 0,.str [],.int .i64 9,.str [],.full [],.full [],.full [],.int .i64 0,.int .i64 0]
abbrev oV :List aa:=[.int .i64 3,.str [67,111,108,111,114],.int .i64 0,.full [],.full []]
abbrev ll :List aa:=[.int .i64 1,.str [],.int .i64 0,.full [],.full []]
abbrev g0 :=(([]:List (List UInt8)).map aa.str)
abbrev O8 :List aa:=[.agg [.str [105,100],.int .i64 1,.str [],.int .i64 0,.full [],.full []],.agg [.str [115,101,108,108,115],.int .i64 0,.str [],.int .i64 0,.full [],.full []],.agg [.str [111,112,101,110],.int .i64 2,.str [],.int .i64 0,.full [],.full []]]
abbrev eU :List aa:=[.str [105,100]]
abbrev nc :List aa:=[.int .i64 2,.str [],.int .i64 0,.full [],.full []]
abbrev II (l:List Int):List aa:=[.str [105,116,101,109],.imm ((itC l).map Co.v),.full eU,.imm ((lw l).map Rf.v),.int .i64 2,.str [],.int .i64 1,.str [],.full [],.full [],.full [],.int .i64 0,.int .i64 0]
abbrev Kh (l:List Int):List aa:=[.str [115,104,111,112],.imm (shC.map Co.v),.full eU,.imm ((shR l).map Rf.v),.int .i64 2,.str [],.int .i64 1,.str [],.full [],.full [],.full [],.int .i64 0,.int .i64 0]
abbrev IX :List aa:=[.str [115,104,111,112],.imm (shC.map Co.v),.full eU,.full [],.int .i64 2,.str [],.int .i64 1,.str [],.full [],.full [],.full [],.int .i64 0,.int .i64 0]
abbrev H8 (l:List Int):List aa:=[.str [105,116,101,109],.imm ((itC l).map Co.v),.full eU,.full [],.int .i64 2,.str [],.int .i64 1,.str [],.full [],.full [],.full [],.int .i64 0,.int .i64 0]
abbrev Pw (l:List Int):List aa:=[.str [105,116,101,109],.imm ((itC l).map Co.v),.full eU,.imm ((lw l).map Rf.v),.int .i64 14,.str [60],.int .i64 0,.str [],.imm g0,.imm g0,.full [Ex.v (Ex.mk 3 [110] 0 [] [] [] [] 0 0),.agg Nq],.int .i64 0,.int .i64 0]
abbrev O1 (l:List Int):List aa:=[.str [105,116,101,109],.imm ((itC l).map Co.v),.full eU,.imm ((lw l).map Rf.v),.int .i64 14,.str [60],.int .i64 0,.str [],.imm g0,.full [],.full [Ex.v (Ex.mk 3 [110] 0 [] [] [] [] 0 0),.agg Nq],.int .i64 0,.int .i64 0]
abbrev OJ :List aa:=[.str [115,104,111,112],.imm (shC.map Co.v),.full eU,.full [.agg [.str [115,101,108,108,115],.str [105,116,101,109]]],.int .i64 2,.str [],.int .i64 1,.str [],.full [],.full [],.full [],.int .i64 0,.int .i64 0]
abbrev Pv (l:List Int):List aa:=[.str [105,116,101,109],.imm ((itC l).map Co.v),.full eU,.imm ((lw l).map Rf.v),.int .i64 14,.str [60],.int .i64 0,.str [],.full [],.full [],.full [Ex.v (Ex.mk 3 [110] 0 [] [] [] [] 0 0),.agg Nq],.int .i64 0,.int .i64 0]
abbrev OB (l:List Int):List aa:=[.str [115,104,111,112],.imm (shC.map Co.v),.full [.str [105,100],.str [115,101,108,108,115]],.imm ((shR l).map Rf.v),.int .i64 2,.str [],.int .i64 1,.str [],.full [],.full [],.full [],.int .i64 0,.int .i64 0]
abbrev Oo (l:List Int):List aa:=[.str [105,116,101,109],.imm ((itC l).map Co.v),.full eU,.full [.agg [.str [97,116],.str [112,108,97,99,101]]],.int .i64 2,.str [],.int .i64 1,.str [],.full [],.full [],.full [],.int .i64 0,.int .i64 0]
abbrev Pn (l:List Int):List aa:=[.str [105,116,101,109],.imm ((itC l).map Co.v),.full eU,.imm ((lw l).map Rf.v),.int .i64 2,.str [],.int .i64 1,.str [],.imm g0,.imm g0,.full [],.int .i64 0,.int .i64 0]
abbrev OO (l:List Int):List aa:=[.str [105,116,101,109],.imm ((itC l).map Co.v),.full eU,.imm ((lw l).map Rf.v),.int .i64 2,.str [],.int .i64 1,.str [],.imm g0,.full [],.full [],.int .i64 0,.int .i64 0]
abbrev OW :List aa:=[.str [112,108,97,99,101],.own 7 0 4,.full eU,.full [],.int .i64 2,.str [],.int .i64 1,.str [],.full [],.full [],.full [],.int .i64 0,.int .i64 0]
abbrev Ou :List aa:=[.str [115,104,111,112],.full O8,.full eU,.full [],.int .i64 2,.str [],.int .i64 1,.str [],.full [],.full [],.full [],.int .i64 0,.int .i64 0]
abbrev ON (l:List Int):List aa:=[.str [112,108,97,99,101],.full (Uh l),.full eU,.full [],.int .i64 2,.str [],.int .i64 1,.str [],.full [],.full [],.full [],.int .i64 0,.int .i64 0]
abbrev Pl (l:List Int):List aa:=[.str [112,108,97,99,101],.imm (Jm l),.full eU,.full [],.int .i64 2,.str [],.int .i64 1,.str [],.full [],.full [],.full [],.int .i64 0,.int .i64 0]
abbrev Pg (l:List Int):List aa:=[.str [105,116,101,109],.full (TK l),.full eU,.full [],.int .i64 2,.str [],.int .i64 1,.str [],.full [],.full [],.full [],.int .i64 0,.int .i64 0]
abbrev vu :Nat×aa:=(8,.imm (eX.map Sm.v))
abbrev c8 :List aa:=[.full [],.full []]
theorem lz {p:Prop} (h:p:=by first|omega|assumption|decide|(have:=ym l;omega)):p:=h
theorem gX {p:Prop} (h:p:=by simp [am.belO,aa.bel,aC]):p:=h
theorem TS {p:Prop} (h:p:=by simp [List.set,aa.frz,aN,opX,Ex.enc,Ex.encL,Ex.v,Ex.kind,Ex.name,Ex.n,Ex.s,Ex.names,Ex.binds,Ex.kids,Ex.pos,Ex.fin]):p:=h
theorem Ug {p:Prop} (h:p:=by simp [List.set,aa.frz,aN,plC,Cf,Co.v, *,Ty.v,Ty.kind,Ty.name,Ty.n,Ty.names,Ty.kids,iO,pC,rp,ut,tu]):p:=h
theorem Sx {p:Prop} (h:p:=by simp [aa.owns,aF,opX,Ex.enc,Ex.encL,Ex.v,Ex.kind,Ex.name,Ex.n,Ex.s,Ex.names,Ex.binds,Ex.kids,Ex.pos,Ex.fin]):p:=h
theorem Vh {p:Prop} (h:p:=by simp [aa.owns,aF,plC,Cf,Co.v, *,Ty.v,Ty.kind,Ty.name,Ty.n,Ty.names,Ty.kids,iO,pC,rp,ut,tu]):p:=h
theorem UN {p:Prop} (h:p:=by first|(rw [show itX l=opX from if_pos aq];kernel_rfl)|(rw [show itX l=u5 2 1 from if_neg aq];kernel_rfl)):p:=h
theorem CI {p:Prop} (h:p:=by simp [List.set,aa.frz,aN]):p:=h
theorem wX {p:Prop} (h:p:=by simp [aa.owns,aF]):p:=h
abbrev xG (l:List Int):List aa:=[.str [112,108,97,99,101],.imm ((plC l).map Co.v),.full [.str [105,100]],.full [],.int .i64 2,.str [],.int .i64 1,.str [],.full [],.full [],.full [],.int .i64 0,.int .i64 0]
abbrev BY :List aa:=[.int .i64 3,.str [67,111,108,111,114],.int .i64 0,.full [],.full []]
abbrev BC :List aa:=[.int .i64 3,.str [83,105,122,101],.int .i64 0,.full [],.full []]
abbrev CS :List aa:=[.int .i64 0,.str [],.int .i64 0,.full [],.full []]
abbrev C8 :List aa:=[.int .i64 1,.str [],.int .i64 0,.full [],.full []]
abbrev BE :List aa:=[.int .i64 2,.str [],.int .i64 0,.full [],.full []]
abbrev uZ :List aa:=[.str [105,100]]
abbrev tv (l:List Int):=(itC l).map Co.v
abbrev NU :=([]:List (List UInt8)).map aa.str
abbrev m4 (l:List Int):=(lw l).map Rf.v
abbrev sX :List aa:=[.full [],.full []]
theorem qq (l:List Int) (hl:jU l):ae cx 17 [.imm (l.map c4)] (Sc.v (ii l)):=by
 have hids:kY.length=2:=rfl;refine fI 131 0 [(ResultVar.cell 2 28)] Tryz.func17 kq ?_;refine zZ (fun _=>[(jo l)]) (fun _=>[]) ?_ ?_;apply zW 1 (mU [(2,.ptr 0 0)]) (mH [] [.box c8]);apply zW 3 (mU [(3,.ptr 1 0)]) (mH [] [.box fQ]);apply zW 3 (mU [(4,.ptr 2 0)]) (mH [] [.box ll]);apply zW 3 (mU [(5,.ptr 3 0)]) (mH [] [.box nc]);apply zW 3 (mU [(6,.ptr 4 0)]) (mH [] Im);apply zW 3 (mU [(7,.ptr 5 0)]) (mH [] [.box uI]);apply zW 11 (mU [(8,.full [.agg [.str [67,111,108,111,114],.full [.agg [.str [82,101,100],.bool false,.int .i64 0,.str [],.int .i64 0,.full [],.full []],.agg [.str [66,108,117,101],.bool false,.int .i64 0,.str [],.int .i64 0,.full [],.full []]]],.agg [.str [83,105,122,101],.full [.agg [.str [83,109,97,108,108],.bool false,.int .i64 0,.str [],.int .i64 0,.full [],.full []],.agg [.str [66,105,103],.bool true,.int .i64 0,.str [],.int .i64 0,.full [],.full []]]]])]) id;refine Ax 8 (.full [.agg [.str [67,111,108,111,114],.full [.agg [.str [82,101,100],.bool false,.int .i64 0,.str [],.int .i64 0,.full [],.full []],.agg [.str [66,108,117,101],.bool false,.int .i64 0,.str [],.int .i64 0,.full [],.full []]]],.agg [.str [83,105,122,101],.full [.agg [.str [83,109,97,108,108],.bool false,.int .i64 0,.str [],.int .i64 0,.full [],.full []],.agg [.str [66,105,103],.bool true,.int .i64 0,.str [],.int .i64 0,.full [],.full []]]]]) (.imm (eX.map Sm.v)) kq (by simp [aa.owns,aF,eX,Sm.v,Ct.v,Ty.v,Ty.kind,Ty.name,Ty.n,Ty.names,Ty.kids,iO,pC,rp,ut,tu]) (by simp [aa.frz,aN,eX,Sm.v,Ct.v,Ty.v,Ty.kind,Ty.name,Ty.n,Ty.names,Ty.kids,iO,pC,rp,ut,tu]) ?_;apply zZ (mK 1 [] []) id;apply zW 4 (mU [(9,.full [.agg fQ,.agg ll])]) id;refine Ax 9 (.full [.agg fQ,.agg ll]) (.imm (kY.map Ty.enc)) kq (by simp [aa.owns,aF,kY,Ty.enc,Ty.encL,Ty.v,Ty.kind,Ty.name,Ty.n,Ty.names,Ty.kids,iO,pC,rp,ut,tu]) (by simp [aa.frz,aN,kY,Ty.enc,Ty.encL,Ty.v,Ty.kind,Ty.name,Ty.n,Ty.names,Ty.kids,iO,pC,rp,ut,tu]) ?_;apply zZ (mK 1 [] []) id;refine zW 5 (fun _=>[(jo l),(2,.ptr 0 0),(3,.ptr 1 0),(4,.ptr 2 0),(5,.ptr 3 0),(6,.ptr 4 0),(7,.ptr 5 0),vu,(9,.imm (kY.map Ty.enc)),(10,.ptr 6 0)]) (fun _=>[.box c8,.box fQ,.box ll,.box nc,.box oV,.box uI,.box [.str [112,108,97,99,101],.full [],.full eU,.full [],.int .i64 2,.str [],.int .i64 1,.str [],.full [],.full [],.full [],.int .i64 0,.int .i64 0]]) ?_ ?_;apply ai;refine zD cxM kq ax ?_;apply qu 2;refine qQ (bu l 0 2 lz lz) aG aG aG kq ?_;have hv1:=bb l 0 2 dq;refine qd ((au (k:=.i64) (l:=kY) (enc:=Ty.enc) (i:=(ah l 0 2)) Ty.zero kq dU il d6 lz lz).trans (congrArg (fun cs=>some (aa.pimm cs 0,_)) (dz (kY.getD (((ah l 0 2)).toNat) Ty.zero)))) ?_ ?_ ?_ ?_;apply qu 9;refine bY kq ⟨kq,?_⟩;refine zE (mT [] [9]) (mO [(6,.box (ON l))]) ?_ ?_;refine nz (σ:=Unit) (fun _=>[(0,.imm (l.map c4)),(2,.ptr 0 0),(3,.ptr 1 0),(4,.ptr 2 0),(5,.ptr 3 0),(7,.ptr 5 0),(8,.imm (eX.map Sm.v)),(10,.ptr 6 0)]) (fun _=>[.box sX,.box CS,.box C8,.box BE,.box BY,.box BC,.box (xG l)]) (fun _=>True) kq ?_ ?_;apply zV 1;refine qP (bu l 1 2 lz lz) aG aG aG kq ?_;have hv2:=bb l 1 2 dq;apply zR 1 (mU [(48,.bool ((ah l 1 2)==1))]) id;by_cases hb3:(ah l 1 2)=1;apply qt (beq_iff_eq.2 hb3);apply qo;apply qr 8;apply qe;refine ab (fun d_ Q_ hk_=>?_);refine zZ (fun _=>[(jo l),(2,.ptr 0 0),(3,.ptr 1 0),(4,.ptr 2 0),(5,.ptr 3 0),(7,.ptr 5 0),vu,(10,.ptr 6 0)]) (fun _=>[.box c8,.box fQ,.box ll,.box nc,.box oV,.box uI,.box OW,.arr 6 (Jm l) 0]) ?_ ?_;refine IL 6 1 7 (cs:=OW) (es:=(Jm l)) (off:=0) (len:=4) (sz:=6) (fr:=0) (Pl l) (Jm l) dq kq kq kq zq kq kq ?_;refine dY 6 1 (cs:=(Pl l)) (y:=.imm (Jm l)) (tJ l) kq kq Vh Ug ?_;refine hk_ _ _ ⟨(),?_,(fg kq kq aA gX)⟩
 . trivial
 iterate 5 kernel_rfl
 apply qf (beq_eq_false_iff_ne.2 hb3);refine qk ?_ ?_;refine ab (fun d_ Q_ hk_=>?_);apply zZ (mT [] [6,48]) id;refine dY 6 1 (cs:=(ON l)) (y:=.full (Uh l)) (tJ l) kq kq Vh Ug ?_;refine hk_ _ _ ⟨(),?_,(fg kq kq aA gX)⟩
 . trivial
 iterate 5 kernel_rfl
 rintro _ _;apply zW 5 (mU [(11,.ptr 7 0)]) (mH [] [.box [.str [105,116,101,109],.full [],.full eU,.full [],.int .i64 2,.str [],.int .i64 1,.str [],.full [],.full [],.full [],.int .i64 0,.int .i64 0]]);apply ai;refine zD cxM kq ax ?_;apply qu 6;refine qd ((au (k:=.i64) (l:=(plC l)) (enc:=Co.v) (i:=0) Co.zero kq em j5 (fun _=>rfl) lz lz).trans (congrArg (fun cs=>some (aa.pimm cs 0,_)) (de ((plC l).getD 0 Co.zero)))) ?_ ?_ ?_ ?_;apply qu 8;refine bY kq ⟨kq,?_⟩;refine zE (mT [] [7]) (mO [(7,.box (Pg l))]) ?_ ?_;refine dY 7 1 (cs:=(Pg l)) (y:=.full (TK l)) (H8 l) kq kq (by simp [aa.owns,aF,itC,Co.v,Ty.v,Ty.kind,Ty.name,Ty.n,Ty.names,Ty.kids,iO,pC,rp,ut,tu]) (by simp [List.set,aa.frz,aN,itC,Co.v,Ty.v,Ty.kind,Ty.name,Ty.n,Ty.names,Ty.kids,iO,pC,rp,ut,tu]) ?_;apply zZ id (mO [(7,.box (H8 l))]);refine nz (σ:=Unit) (fun _=>[(0,.imm (l.map c4)),(2,.ptr 0 0),(3,.ptr 1 0),(4,.ptr 2 0),(5,.ptr 3 0),(8,.imm (eX.map Sm.v)),(10,.ptr 6 0),(11,.ptr 7 0)]) (fun _=>[.box sX,.box CS,.box C8,.box BE,.box BY,.box BC,.box (xG l),.box [.str [105,116,101,109],.imm (tv l),.full uZ,.imm (m4 l),.int .i64 2,.str [],.int .i64 1,.str [],.full [],.full [],.full [],.int .i64 0,.int .i64 0]]) (fun _=>True) kq ?_ ?_;apply zV 1;refine qP (bu l 2 3 lz lz) aG aG aG kq ?_;have hv4:=bb l 2 3 dq;apply zR 1 (mU [(75,.bool (decide ((ah l 2 3) > 0)))]) id;by_cases hb5:(ah l 2 3) > 0;apply qt (decide_eq_true hb5);apply qo;apply qr 4;apply qe;refine ab (fun d_ Q_ hk_=>?_);refine zZ (fun _=>[(jo l),(2,.ptr 0 0),(3,.ptr 1 0),(4,.ptr 2 0),(5,.ptr 3 0),vu,(10,.ptr 6 0),(11,.ptr 7 0)]) (fun _=>[.box c8,.box fQ,.box ll,.box nc,.box oV,.box uI,.box (tJ l),.box (Oo l)]) ?_ ?_;refine dY 7 3 (cs:=(Oo l)) (y:=.full [.agg [.str [97,116],.str [112,108,97,99,101]]]) (II l) kq kq (by simp [aa.owns,aF,lw,Rf.v, *]) (by simp [List.set,aa.frz,aN,lw,Rf.v, *]) ?_;refine hk_ _ _ ⟨(),?_,(fg kq kq aA gX)⟩
 . trivial
 iterate 5 kernel_rfl
 apply qf (decide_eq_false hb5);refine qk ?_ ?_;refine ab (fun d_ Q_ hk_=>?_);apply zZ (mT [] [75]) id;refine dY 7 3 (cs:=(H8 l)) (y:=.full []) (II l) kq kq (by simp [aa.owns,aF,lw,Rf.v, *]) (by simp [List.set,aa.frz,aN,lw,Rf.v, *]) ?_;refine hk_ _ _ ⟨(),?_,(fg kq kq aA gX)⟩
 . trivial
 iterate 5 kernel_rfl
 rintro _ _;refine nz (σ:=Unit) (fun _=>[(0,.imm (l.map c4)),(2,.ptr 0 0),(3,.ptr 1 0),(4,.ptr 2 0),(5,.ptr 3 0),(8,.imm (eX.map Sm.v)),(10,.ptr 6 0),(11,.ptr 7 0)]) (fun _=>[.box sX,.box CS,.box C8,.box BE,.box BY,.box BC,.box (xG l),.box [.str [105,116,101,109],.imm (tv l),.full uZ,.imm (m4 l),.int .i64 ((itX l).kind),.str (itX l).name,.int .i64 ((itX l).n),.str (itX l).s,.imm ((itX l).names.map aa.str),.imm ((itX l).binds.map aa.str),.imm ((itX l).kids.map Ex.enc),.int .i64 ((itX l).pos),.int .i64 ((itX l).fin)]]) (fun _=>True) kq ?_ ?_;apply zV 1;refine qP (bu l 3 3 lz lz) aG aG aG kq ?_;have hv6:=bb l 3 3 dq;apply zR 1 (mU [(81,.bool ((ah l 3 3)==0))]) id;by_cases hb7:(ah l 3 3)=0;apply qt (beq_iff_eq.2 hb7);apply qo;refine qc [.str [110]] (He [110]) ?_ ?_;apply qr 5;apply qe;refine ab (fun d_ Q_ hk_=>?_);refine zZ (fun _=>[(jo l),(2,.ptr 0 0),(3,.ptr 1 0),(4,.ptr 2 0),(5,.ptr 3 0),vu,(10,.ptr 6 0),(11,.ptr 7 0)]) (fun _=>[.box c8,.box fQ,.box ll,.box nc,.box oV,.box uI,.box (tJ l),.box (Pv l)]) ?_ ?_;refine dY 7 8 (cs:=(Pv l)) (y:=.full []) (O1 l) kq kq wX CI ?_;refine dY 7 9 (cs:=(O1 l)) (y:=.full []) (Pw l) kq kq wX CI ?_;refine dY 7 10 (cs:=(Pw l)) (y:=.full [Ex.v (Ex.mk 3 [110] 0 [] [] [] [] 0 0),.agg Nq]) [.str [105,116,101,109],.imm (tv l),.full eU,.imm (m4 l),.int .i64 14,.str [60],.int .i64 0,.str [],.imm g0,.imm g0,.imm (opX.kids.map Ex.enc),.int .i64 0,.int .i64 0] kq kq Sx TS ?_;refine hk_ _ _ ⟨(),?_,(fg kq (Eq.trans (b:=[.box sX,.box CS,.box C8,.box BE,.box BY,.box BC,.box (xG l),.box [.str [105,116,101,109],.imm (tv l),.full uZ,.imm (m4 l),.int .i64 14,.str [60],.int .i64 0,.str [],.imm NU,.imm NU,.imm (opX.kids.map Ex.enc),.int .i64 0,.int .i64 0]]) kq UN) aA gX)⟩
 . trivial
 iterate 6 kernel_rfl
 apply qf (beq_eq_false_iff_ne.2 hb7);refine qk ?_ ?_;refine ab (fun d_ Q_ hk_=>?_);apply zZ (mT [] [81]) id;refine dY 7 8 (cs:=(II l)) (y:=.full []) (OO l) kq kq wX CI ?_;refine dY 7 9 (cs:=(OO l)) (y:=.full []) (Pn l) kq kq wX CI ?_;refine dY 7 10 (cs:=(Pn l)) (y:=.full []) [.str [105,116,101,109],.imm (tv l),.full eU,.imm (m4 l),.int .i64 2,.str [],.int .i64 1,.str [],.imm g0,.imm g0,.imm (([]:List Ex).map Ex.enc),.int .i64 0,.int .i64 0] kq kq Sx TS ?_;refine hk_ _ _ ⟨(),?_,(fg kq (Eq.trans (b:=[.box sX,.box CS,.box C8,.box BE,.box BY,.box BC,.box (xG l),.box [.str [105,116,101,109],.imm (tv l),.full uZ,.imm (m4 l),.int .i64 2,.str [],.int .i64 1,.str [],.imm NU,.imm NU,.imm (([]:List Ex).map Ex.enc),.int .i64 0,.int .i64 0]]) kq UN) aA gX)⟩
 . trivial
 iterate 5 kernel_rfl
 rintro _ _;apply zW 5 (mU [(12,.ptr 8 0)]) (mH [] [.box [.str [115,104,111,112],.full [],.full eU,.full [],.int .i64 2,.str [],.int .i64 1,.str [],.full [],.full [],.full [],.int .i64 0,.int .i64 0]]);apply zW 9 (mT [] [3,4,5]) (mO [(8,.box Ou)]);refine dY 8 1 (cs:=Ou) (y:=.full O8) IX kq kq (by simp [aa.owns,aF,shC,Co.v,Ty.v,Ty.kind,Ty.name,Ty.n,Ty.names,Ty.kids,iO,pC,rp,ut,tu]) (by simp [List.set,aa.frz,aN,shC,Co.v,Ty.v,Ty.kind,Ty.name,Ty.n,Ty.names,Ty.kids,iO,pC,rp,ut,tu]) ?_;apply zZ id (mO [(8,.box IX)]);refine nz (σ:=Unit) (fun _=>[(0,.imm (l.map c4)),(2,.ptr 0 0),(8,.imm (eX.map Sm.v)),(10,.ptr 6 0),(11,.ptr 7 0),(12,.ptr 8 0)]) (fun _=>[.box sX,.box CS,.box C8,.box BE,.box BY,.box BC,.box (xG l),.box [.str [105,116,101,109],.imm (tv l),.full uZ,.imm (m4 l),.int .i64 ((itX l).kind),.str (itX l).name,.int .i64 ((itX l).n),.str (itX l).s,.imm ((itX l).names.map aa.str),.imm ((itX l).binds.map aa.str),.imm ((itX l).kids.map Ex.enc),.int .i64 ((itX l).pos),.int .i64 ((itX l).fin)],.box [.str [115,104,111,112],.imm (shC.map Co.v),.full uZ,.imm ((shR l).map Rf.v),.int .i64 2,.str [],.int .i64 1,.str [],.full [],.full [],.full [],.int .i64 0,.int .i64 0]]) (fun _=>True) kq ?_ ?_;apply zV 1;refine qP (bu l 4 2 lz lz) aG aG aG kq ?_;have hv8:=bb l 4 2 dq;apply zR 1 (mU [(100,.bool ((ah l 4 2)==0))]) id;by_cases hb9:(ah l 4 2)=0;apply qt (beq_iff_eq.2 hb9);apply qo;apply qr 4;apply qe;refine ab (fun d_ Q_ hk_=>?_);refine zZ (fun _=>[(jo l),(2,.ptr 0 0),vu,(10,.ptr 6 0),(11,.ptr 7 0),(12,.ptr 8 0)]) (fun _=>[.box c8,.box fQ,.box ll,.box nc,.box oV,.box uI,.box (tJ l),.box (FY l),.box OJ]) ?_ ?_;refine dY 8 3 (cs:=OJ) (y:=.full [.agg [.str [115,101,108,108,115],.str [105,116,101,109]]]) (Kh l) kq kq (by simp [aa.owns,aF,shR,Rf.v, *]) (by simp [List.set,aa.frz,aN,shR,Rf.v, *]) ?_;refine hk_ _ _ ⟨(),?_,(fg kq kq aA gX)⟩
 . trivial
 iterate 5 kernel_rfl
 apply qf (beq_eq_false_iff_ne.2 hb9);refine qk ?_ ?_;refine ab (fun d_ Q_ hk_=>?_);apply zZ (mT [] [100]) id;refine dY 8 3 (cs:=IX) (y:=.full []) (Kh l) kq kq (by simp [aa.owns,aF,shR,Rf.v, *]) (by simp [List.set,aa.frz,aN,shR,Rf.v, *]) ?_;refine hk_ _ _ ⟨(),?_,(fg kq kq aA gX)⟩
 . trivial
 iterate 5 kernel_rfl
 rintro _ _;refine nz (σ:=Unit) (fun _=>[(0,.imm (l.map c4)),(2,.ptr 0 0),(8,.imm (eX.map Sm.v)),(10,.ptr 6 0),(11,.ptr 7 0),(12,.ptr 8 0)]) (fun _=>[.box sX,.box CS,.box C8,.box BE,.box BY,.box BC,.box (xG l),.box [.str [105,116,101,109],.imm (tv l),.full uZ,.imm (m4 l),.int .i64 ((itX l).kind),.str (itX l).name,.int .i64 ((itX l).n),.str (itX l).s,.imm ((itX l).names.map aa.str),.imm ((itX l).binds.map aa.str),.imm ((itX l).kids.map Ex.enc),.int .i64 ((itX l).pos),.int .i64 ((itX l).fin)],.box [.str [115,104,111,112],.imm (shC.map Co.v),.imm ((shK l).map aa.str),.imm ((shR l).map Rf.v),.int .i64 2,.str [],.int .i64 1,.str [],.full [],.full [],.full [],.int .i64 0,.int .i64 0]]) (fun _=>True) kq ?_ ?_;apply zV 1;refine qP (bu l 5 4 lz lz) aG aG aG kq ?_;have hv10:=bb l 5 4 dq;apply zR 1 (mU [(106,.bool ((ah l 5 4)==0))]) id;by_cases hb11:(ah l 5 4)=0;apply qt (beq_iff_eq.2 hb11);apply qo;apply qr 3;apply qe;refine ab (fun d_ Q_ hk_=>?_);refine zZ (fun _=>[(jo l),(2,.ptr 0 0),vu,(10,.ptr 6 0),(11,.ptr 7 0),(12,.ptr 8 0)]) (fun _=>[.box c8,.box fQ,.box ll,.box nc,.box oV,.box uI,.box (tJ l),.box (FY l),.box (OB l)]) ?_ ?_;refine dY 8 2 (cs:=(OB l)) (y:=.full [.str [105,100],.str [115,101,108,108,115]]) (GA l) kq kq (by simp [aa.owns,aF,shK, *]) (by simp [List.set,aa.frz,aN,shK, *]) ?_;refine hk_ _ _ ⟨(),?_,(fg kq kq aA gX)⟩
 . trivial
 iterate 5 kernel_rfl
 apply qf (beq_eq_false_iff_ne.2 hb11);refine qk ?_ ?_;refine ab (fun d_ Q_ hk_=>?_);apply zZ (mT [] [106]) id;refine dY 8 2 (cs:=(Kh l)) (y:=.full eU) (GA l) kq kq (by simp [aa.owns,aF,shK, *]) (by simp [List.set,aa.frz,aN,shK, *]) ?_;refine hk_ _ _ ⟨(),?_,(fg kq kq aA gX)⟩
 . trivial
 iterate 5 kernel_rfl
 rintro _ _;apply ai;apply zV 1;refine qP (bu l 6 4 lz lz) aG aG aG kq ?_;have hv12:=bb l 6 4 dq;refine zN (mT [(110,.int .i64 (ah l 6 4))] [0]) id ?_ ?_;apply qB 0;apply zW 2 (mU [(111,.bool ((ah l 6 4)==0))]) id;by_cases hb13:(ah l 6 4)=0;apply qt (beq_iff_eq.2 hb13);apply zW 2 (mT [] [10,12,110,111]) (mO [(7,.box (RE l))]);refine zW 5 (fun _=>[(2,.ptr 0 0)]) (fun _=>[.box [.imm (eX.map Sm.v),.full [.agg (RE l)]],.box fQ,.box ll,.box nc,.box oV,.box uI,.box (tJ l),.box (RE l),.box (GA l)]) ?_ ?_;refine aJ kq ?_;apply iR;apply aR;refine cd (l:=[.agg [.imm (eX.map Sm.v),.full [.agg [.str [105,116,101,109],.imm (tv l),.full uZ,.full [],.int .i64 ((itX l).kind),.str (itX l).name,.int .i64 ((itX l).n),.str (itX l).s,.imm ((itX l).names.map aa.str),.imm ((itX l).binds.map aa.str),.imm ((itX l).kids.map Ex.enc),.int .i64 ((itX l).pos),.int .i64 ((itX l).fin)]]]]) (.inr rfl) kq ?_
 rotate_left
 iterate 3 kernel_rfl
 apply qf (beq_eq_false_iff_ne.2 hb13);apply zW 2 (mT [(118,.bool ((ah l 6 4)==1))] [110,111]) id;by_cases hb14:(ah l 6 4)=1;apply qt (beq_iff_eq.2 hb14);refine zW 6 (fun _=>[(2,.ptr 0 0)]) (fun _=>[.box [.imm (eX.map Sm.v),.full [.agg (FY l),.agg (tJ l)]],.box fQ,.box ll,.box nc,.box oV,.box uI,.box (tJ l),.box (FY l),.box (GA l)]) ?_ ?_;refine aJ kq ?_;apply iR;apply aR;refine cd (l:=[.agg [.imm (eX.map Sm.v),.full [.agg [.str [105,116,101,109],.imm (tv l),.full uZ,.imm (m4 l),.int .i64 ((itX l).kind),.str (itX l).name,.int .i64 ((itX l).n),.str (itX l).s,.imm ((itX l).names.map aa.str),.imm ((itX l).binds.map aa.str),.imm ((itX l).kids.map Ex.enc),.int .i64 ((itX l).pos),.int .i64 ((itX l).fin)],.agg (xG l)]]]) (.inr rfl) kq ?_
 rotate_left
 iterate 2 kernel_rfl
 apply qf (beq_eq_false_iff_ne.2 hb14);refine qk ?_ ?_;refine ag ?_;apply ab;apply zZ (mT [] [118]) id;refine zW 7 (fun _=>[(2,.ptr 0 0)]) (fun _=>[.box [.imm (eX.map Sm.v),.full [.agg (FY l),.agg (tJ l),.agg (GA l)]],.box fQ,.box ll,.box nc,.box oV,.box uI,.box (tJ l),.box (FY l),.box (GA l)]) ?_ ?_;refine aJ kq ?_;refine cd (l:=[.agg [.imm (eX.map Sm.v),.full [.agg [.str [105,116,101,109],.imm (tv l),.full uZ,.imm (m4 l),.int .i64 ((itX l).kind),.str (itX l).name,.int .i64 ((itX l).n),.str (itX l).s,.imm ((itX l).names.map aa.str),.imm ((itX l).binds.map aa.str),.imm ((itX l).kids.map Ex.enc),.int .i64 ((itX l).pos),.int .i64 ((itX l).fin)],.agg (xG l),.agg [.str [115,104,111,112],.imm (shC.map Co.v),.imm ((shK l).map aa.str),.imm ((shR l).map Rf.v),.int .i64 2,.str [],.int .i64 1,.str [],.full [],.full [],.full [],.int .i64 0,.int .i64 0]]]]) (.inr rfl) kq ?_
 rotate_left
 iterate 43 kernel_rfl
 all_goals
  first|(rw [show ii l=⟨eX,[itT l []]⟩ from if_pos aq];simp [aZ,aa.frz,aN,Sc.v,Tb.v,itT,plT,shT,u5,Ex.v,Ex.kind,Ex.name,Ex.n,Ex.s,Ex.names,Ex.binds,Ex.kids,Ex.pos,Ex.fin];done)|(rw [show ii l=⟨eX,[itT l (lw l),plT l]⟩ from (if_neg aq).trans (if_pos aq)];simp [aZ,aa.frz,aN,Sc.v,Tb.v,itT,plT,shT,u5,Ex.v,Ex.kind,Ex.name,Ex.n,Ex.s,Ex.names,Ex.binds,Ex.kids,Ex.pos,Ex.fin];done)|(rw [show ii l=⟨eX,[itT l (lw l),plT l,shT l]⟩ from (if_neg aq).trans (if_neg aq)];simp [aZ,aa.frz,aN,Sc.v,Tb.v,itT,plT,shT,u5,Ex.v,Ex.kind,Ex.name,Ex.n,Ex.s,Ex.names,Ex.binds,Ex.kids,Ex.pos,Ex.fin];done)
def uO (n:Nat):List UInt8:=[UInt8.ofNat (48+n)]
theorem Iu (n:Nat) (hn:n<9):ae cx 14 [.int .i64 ((n:Nat):Int)] (.str (uO n)):=by
 match n,hn with
 | 0,_=>exact bg (p:=xp) cxM bi bR 60 false 14 [.int .i64 0] [] (.str [48],[]) kq
 | 1,_=>exact bg (p:=xp) cxM bi bR 60 false 14 [.int .i64 1] [] (.str [49],[]) kq
 | 2,_=>exact bg (p:=xp) cxM bi bR 60 false 14 [.int .i64 2] [] (.str [50],[]) kq
 | 3,_=>exact bg (p:=xp) cxM bi bR 60 false 14 [.int .i64 3] [] (.str [51],[]) kq
 | 4,_=>exact bg (p:=xp) cxM bi bR 60 false 14 [.int .i64 4] [] (.str [52],[]) kq
 | 5,_=>exact bg (p:=xp) cxM bi bR 60 false 14 [.int .i64 5] [] (.str [53],[]) kq
 | 6,_=>exact bg (p:=xp) cxM bi bR 60 false 14 [.int .i64 6] [] (.str [54],[]) kq
 | 7,_=>exact bg (p:=xp) cxM bi bR 60 false 14 [.int .i64 7] [] (.str [55],[]) kq
 | 8,_=>exact bg (p:=xp) cxM bi bR 60 false 14 [.int .i64 8] [] (.str [56],[]) kq
 | n+9,h=>exact absurd h oq
def bW (l:List Int):List UInt8:=([[105,100],[110],[120],[111,112,101,110],[73,100],[],[105,116,101,109],[115,104,111,112],[97,98,99,100,101,102,103,104,105,106,107,108,109,110,111,112,113],[116,121,112,101]]:List (List UInt8)).getD (ah l 2 10).toNat []
def bI (s:Sc) (l:List Int):Nat:=(ah l 1 ((s.tabs.length:Nat):Int)).toNat
def bT (s:Sc) (l:List Int):Tb:=s.tabs.getD (0+bI s l) Tb.zero
def bK (s:Sc) (l:List Int):Nat:=(ah l 3 (((bT s l).cols.length:Nat):Int)).toNat
def bC (s:Sc) (l:List Int):Co:=(bT s l).cols.getD (0+bK s l) Co.zero
def k6:Nat->List Co->List Co
 | 0,c=>c
 | n+1,c=>k6 n (c++[⟨[99]++uO c.length,iO⟩])
def mj (q:Int) (s:Sc) (l:List Int):List Co:=if q=1 then (bT s l).cols.set (0+bK s l) ⟨bW l,(bC s l).type⟩ else if q=2 then (bT s l).cols.set (0+bK s l) ⟨(bC s l).name,bP l 1 4⟩ else if q=8 then k6 (9 - (bT s l).cols.length) (bT s l).cols else (bT s l).cols
def ug (q:Int) (s:Sc) (l:List Int):List (List UInt8):=if q=3 then (bT s l).key++[bW l] else if q=4 then (if ((((bT s l).key.length:Nat):Int) > 0) then (bT s l).key.set (0+0) (bW l) else (bT s l).key) else if q=5 then [] else (bT s l).key
def vK (q:Int) (s:Sc) (l:List Int):List Rf:=if q=6 then (bT s l).refs++[⟨bW l,[112,108,97,99,101]⟩] else if q=7 then (bT s l).refs++[⟨(bC s l).name,bW l⟩] else (bT s l).refs
def ql (q:Int) (s:Sc) (l:List Int):List UInt8:=if q=0 then bW l else (bT s l).name
def iV (q:Int) (s:Sc) (l:List Int):Ex:=if q=12 then u5 16 0 else (bT s l).chk
def jc (q:Int) (s:Sc) (l:List Int):List Sm:=if q=9 then s.sums.set 0 ⟨([[83,105,122,101],[73,110,116],[90,101,100],[114,101,100],[]]:List (List UInt8)).getD (ah l 2 5).toNat [],(s.sums.getD 0 Sm.zero).ctors⟩ else if q=10 then s.sums.set 0 ⟨(s.sums.getD 0 Sm.zero).name,[⟨([[83,109,97,108,108],[73,110,116],[120],[71,114,101,101,110]]:List (List UInt8)).getD (ah l 2 4).toNat [],(ah l 3 2==1),bP l 1 5⟩]⟩ else if q=11 then s.sums.set (0+(((s.sums.length:Nat):Int) - 1).toNat) ⟨(s.sums.getD (0+(((s.sums.length:Nat):Int) - 1).toNat) Sm.zero).name,[]⟩ else s.sums
def e7 (q:Int) (s:Sc) (l:List Int):List Tb:=if q=13 then s.tabs++[bT s l] else s.tabs
def tp (s:Sc) (l:List Int):Sc:=⟨jc (ah l 0 14) s l,(e7 (ah l 0 14) s l).set (0+bI s l) ⟨ql (ah l 0 14) s l,mj (ah l 0 14) s l,ug (ah l 0 14) s l,vK (ah l 0 14) s l,iV (ah l 0 14) s l⟩⟩
theorem Tb.v_vJ (t:Tb):t.v=t.v:=rfl
theorem NJ (t:Tb):(Tb.v t).cells.length=13/\(Tb.v t).cells.all aa.cellOk=true:=⟨rfl,rfl⟩
theorem HB (p q:Tb):(Tb.v p).withCells (Tb.v q).cells=some (Tb.v q):=rfl
theorem yC (t:List UInt8):(aa.str t).cells.length=1/\(aa.str t).cells.all aa.cellOk=true:=⟨rfl,rfl⟩
theorem tj (p q:List UInt8):(aa.str p).withCells (aa.str q).cells=some (aa.str q):=rfl
end Go.Proofs.YtcpklndelobigaaGreatDoor
