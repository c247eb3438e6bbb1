/- The context of the schema's seat; slices.Clone at its instances: a new array of the same elements. Conditions: the elements have the type's cells, and their bytes can be had. -/
import Derived.Test.YtcpklndelobigaaGreatDoorTy
import Derived.Test.YtcpklndelobigaaGreatDoorAbsd
set_option linter.all false
namespace Go.Proofs.YtcpklndelobigaaGreatDoor
open Go.Proofs.YtcpklndelobigaaGreatDoor.Abs
set_option maxRecDepth 20000
set_option maxHeartbeats 4000000
def aF (f:Func):Code:=match f.body with
 | some c=>c
 | none=>.skip
def u7:List aa:=[.str [97,110,100],.str [97,115],.str [99,104,101,99,107],.str [100,101,108,101,116,101],.str [101,108,115,101],.str [102,97,108,115,101],.str [102,117,110],.str [105,102],.str [105,110],.str [105,110,115,101,114,116],.str [107,101,121],.str [108,101,116],.str [109,97,116,99,104],.str [110,111,116],.str [111,114],.str [112,114,111,99],.str [114,101,102],.str [115,101,116],.str [116,97,98,108,101],.str [116,104,101,110],.str [116,111],.str [116,114,117,101],.str [116,121,112,101],.str [117,112,100,97,116,101],.str [119,104,101,114,101],.str [119,105,116,104]]
def uO:List aa:=[.str [61,61],.str [33,61],.str [60,61],.str [60,45],.str [45,62],.str [43,43],.str [60],.str [62],.str [61],.str [43],.str [45],.str [42],.str [40],.str [41],.str [123],.str [125],.str [91],.str [93],.str [44],.str [46],.str [58],.str [124],.str [59],.str [63]]
noncomputable def cx:Cx:=⟨Tryz.prog,fun g=>bif Nat.beq g 5 then some u7 else bif Nat.beq g 6 then some uO else none⟩
theorem cxM:cx.P.follows .mixedOrders=true:=by kernel_rfl
theorem nJ {l:List aa} {h:ae} {r:aa×ae} (hr:r∈(bif l.isEmpty then [true,false] else [false]).map fun b=>((.bool b:aa),h)):∃ b,r=(.bool b,h)/\(b=true->l=[]):=by
 obtain ⟨b,hb,rfl⟩:=List.mem_map.1 hr;refine ⟨b,rfl,?_⟩;rintro rfl;cases l with
 | nil=>rfl
 | cons x l=>simp at hb
theorem kW {P:Program} {ev:Operand->aa} {op:Op} {h h0:ae} {l:List aa} {t e a b a' b':Nat} {z z':aa} {ek:TyK} (hv:sN ev op=some (.append,[t,t],[.full [],.imm l])) (hh:h=h0)
 (ht:aN P t=some ⟨.slice e,a,b,z⟩) (he:aN P e=some ⟨ek,a',b',z'⟩) (hc:0<a'/\z'.cells.length=a'/\fE a' l=true) (hf:gR l.length b'=true) :
 aop P h ev op=some (.own h0.length 0 l.length,h0++[.arr a' l 0]):=by
 subst hh;rw [gO hv];simp only [dA,jN,ht,he,fG];rw [if_pos hc,if_pos ⟨rfl,rfl,by simpa using hf⟩];simp
theorem fT {cx:Cx} {m:Nat} {l:List aa} {h:ae} {sz r:Nat} {T:Tm} {e:Exit} (hm:m=h.length) (he:e=.normal\/e=.ret) (hT:Tm.get T r=.own h.length 0 l.length) (hb:h.all (ax.belO (h.length+1))=true) (hbl:aM (h.length+1) l=true) :
 z7 cx [.tmp r] m (fun v h'=>v=.own h.length 0 l.length/\h'=h++[.arr sz l 0]) e T (h++[.arr sz l 0]):=by
 have ht:(h++[ax.arr sz l 0]).take (h.length+1)=h++[.arr sz l 0]:=List.take_of_length_le zq;refine ⟨he,[.own h.length 0 l.length],by simp [fx,hT],h.length+1,by omega,by simp [bg,aa.bel],?_,rfl,ht⟩;rw [ht,List.all_append,hb];simp [ax.belO,hbl]
noncomputable def Rr:Code:=aF Tryz.f78
theorem Cf (l:List aa) (h:ae) (hok:fE 6 l=true) (hf:gR l.length 96=true) (hb:h.all (ax.belO (h.length+1))=true) (hbl:aM (h.length+1) l=true) :
 aE cx 78 [.imm l] h (fun v h'=>v=.own h.length 0 l.length/\h'=h++[.arr 6 l 0]):=by
 refine fo (cx:=cx) 8 h.length [.tmp 2] Tryz.func78 rfl rfl rfl rfl rfl zq ?_;show wpA cx 8 h.length (at_ Rr []) _ _ _;refine wSt [0] [(0,.imm l)] h kq rfl ?_;refine fu kq ?_;refine iJ kq (cY ?_);refine fh 1 kq ?_;refine ia kq ?_;refine ab ?_;refine wSt [0,2] [(0,.imm l),(2,.full [])] h kq kq ?_;refine fu kq ?_;refine fu kq ?_;refine iJ kq (cY ?_);refine fh 1 kq ?_;refine lj (L:=(bif l.isEmpty then [true,false] else [false]).map fun b=>(.bool b,h)) kq kq kq kq kq ?_;intro r hr;obtain ⟨b,rfl,hb0⟩:=nJ hr;refine ia kq ?_;refine ab ?_;refine wSt [0,2,4] [(0,.imm l),(2,.full []),(4,.bool b)] h kq kq ?_;refine wIf kq b kq (fun e=>?_) (fun _=>?_)
 . have hl:=hb0 e;subst hl;refine fu kq ?_;refine iJ kq (cY ?_);refine fh 1 kq ?_;refine ia kq ?_;refine ab ?_;refine wSt [2] [(2,.full [])] h kq kq ?_;refine jZ 2 6 dq rfl ?_;exact bq kq (fT rfl (.inr rfl) rfl hb hbl)
 . refine rX kq ?_;refine ab ?_;refine wSt [0,2] [(0,.imm l),(2,.full [])] h kq kq ?_;refine fu kq ?_;refine iJ kq (cY ?_);refine fh 2 kq ?_;refine i9 (v:=.own h.length 0 l.length) (h':=h++[.arr 6 l 0]) kq kq (kW (P:=cx.P) (t:=46) (l:=l) (h0:=h) kq kq eL kp ⟨by decide,by decide,hok⟩ hf) ?_;refine fh 1 kq ?_;refine ia kq ?_;refine ab ?_;exact bq kq (fT rfl (.inr rfl) rfl hb hbl)
noncomputable def QS:Code:=aF Tryz.f79
theorem A2 (l:List aa) (h:ae) (hok:fE 1 l=true) (hf:gR l.length 16=true) (hb:h.all (ax.belO (h.length+1))=true) (hbl:aM (h.length+1) l=true) :
 aE cx 79 [.imm l] h (fun v h'=>v=.own h.length 0 l.length/\h'=h++[.arr 1 l 0]):=by
 refine fo (cx:=cx) 8 h.length [.tmp 2] Tryz.func79 rfl rfl rfl rfl rfl zq ?_;show wpA cx 8 h.length (at_ QS []) _ _ _;refine wSt [0] [(0,.imm l)] h kq rfl ?_;refine fu kq ?_;refine iJ kq (cY ?_);refine fh 1 kq ?_;refine ia kq ?_;refine ab ?_;refine wSt [0,2] [(0,.imm l),(2,.full [])] h kq kq ?_;refine fu kq ?_;refine fu kq ?_;refine iJ kq (cY ?_);refine fh 1 kq ?_;refine lj (L:=(bif l.isEmpty then [true,false] else [false]).map fun b=>(.bool b,h)) kq kq kq kq kq ?_;intro r hr;obtain ⟨b,rfl,hb0⟩:=nJ hr;refine ia kq ?_;refine ab ?_;refine wSt [0,2,4] [(0,.imm l),(2,.full []),(4,.bool b)] h kq kq ?_;refine wIf kq b kq (fun e=>?_) (fun _=>?_)
 . have hl:=hb0 e;subst hl;refine fu kq ?_;refine iJ kq (cY ?_);refine fh 1 kq ?_;refine ia kq ?_;refine ab ?_;refine wSt [2] [(2,.full [])] h kq kq ?_;refine jZ 2 1 dq rfl ?_;exact bq kq (fT rfl (.inr rfl) rfl hb hbl)
 . refine rX kq ?_;refine ab ?_;refine wSt [0,2] [(0,.imm l),(2,.full [])] h kq kq ?_;refine fu kq ?_;refine iJ kq (cY ?_);refine fh 2 kq ?_;refine i9 (v:=.own h.length 0 l.length) (h':=h++[.arr 1 l 0]) kq kq (kW (P:=cx.P) (t:=40) (l:=l) (h0:=h) kq kq bf ty9 ⟨by decide,by decide,hok⟩ hf) ?_;refine fh 1 kq ?_;refine ia kq ?_;refine ab ?_;exact bq kq (fT rfl (.inr rfl) rfl hb hbl)
noncomputable def QR:Code:=aF Tryz.f80
theorem A4 (l:List aa) (h:ae) (hok:fE 2 l=true) (hf:gR l.length 32=true) (hb:h.all (ax.belO (h.length+1))=true) (hbl:aM (h.length+1) l=true) :
 aE cx 80 [.imm l] h (fun v h'=>v=.own h.length 0 l.length/\h'=h++[.arr 2 l 0]):=by
 refine fo (cx:=cx) 8 h.length [.tmp 2] Tryz.func80 rfl rfl rfl rfl rfl zq ?_;show wpA cx 8 h.length (at_ QR []) _ _ _;refine wSt [0] [(0,.imm l)] h kq rfl ?_;refine fu kq ?_;refine iJ kq (cY ?_);refine fh 1 kq ?_;refine ia kq ?_;refine ab ?_;refine wSt [0,2] [(0,.imm l),(2,.full [])] h kq kq ?_;refine fu kq ?_;refine fu kq ?_;refine iJ kq (cY ?_);refine fh 1 kq ?_;refine lj (L:=(bif l.isEmpty then [true,false] else [false]).map fun b=>(.bool b,h)) kq kq kq kq kq ?_;intro r hr;obtain ⟨b,rfl,hb0⟩:=nJ hr;refine ia kq ?_;refine ab ?_;refine wSt [0,2,4] [(0,.imm l),(2,.full []),(4,.bool b)] h kq kq ?_;refine wIf kq b kq (fun e=>?_) (fun _=>?_)
 . have hl:=hb0 e;subst hl;refine fu kq ?_;refine iJ kq (cY ?_);refine fh 1 kq ?_;refine ia kq ?_;refine ab ?_;refine wSt [2] [(2,.full [])] h kq kq ?_;refine jZ 2 2 dq rfl ?_;exact bq kq (fT rfl (.inr rfl) rfl hb hbl)
 . refine rX kq ?_;refine ab ?_;refine wSt [0,2] [(0,.imm l),(2,.full [])] h kq kq ?_;refine fu kq ?_;refine iJ kq (cY ?_);refine fh 2 kq ?_;refine i9 (v:=.own h.length 0 l.length) (h':=h++[.arr 2 l 0]) kq kq (kW (P:=cx.P) (t:=50) (l:=l) (h0:=h) kq kq iw ow ⟨by decide,by decide,hok⟩ hf) ?_;refine fh 1 kq ?_;refine ia kq ?_;refine ab ?_;exact bq kq (fT rfl (.inr rfl) rfl hb hbl)
noncomputable def Qk:Code:=aF Tryz.f55
theorem AR (l:List aa) (h:ae) (hok:fE 7 l=true) (hf:gR l.length 104=true) (hb:h.all (ax.belO (h.length+1))=true) (hbl:aM (h.length+1) l=true) :
 aE cx 55 [.imm l] h (fun v h'=>v=.own h.length 0 l.length/\h'=h++[.arr 7 l 0]):=by
 refine fo (cx:=cx) 8 h.length [.tmp 2] Tryz.func55 rfl rfl rfl rfl rfl zq ?_;show wpA cx 8 h.length (at_ Qk []) _ _ _;refine wSt [0] [(0,.imm l)] h kq rfl ?_;refine fu kq ?_;refine iJ kq (cY ?_);refine fh 1 kq ?_;refine ia kq ?_;refine ab ?_;refine wSt [0,2] [(0,.imm l),(2,.full [])] h kq kq ?_;refine fu kq ?_;refine fu kq ?_;refine iJ kq (cY ?_);refine fh 1 kq ?_;refine lj (L:=(bif l.isEmpty then [true,false] else [false]).map fun b=>(.bool b,h)) kq kq kq kq kq ?_;intro r hr;obtain ⟨b,rfl,hb0⟩:=nJ hr;refine ia kq ?_;refine ab ?_;refine wSt [0,2,4] [(0,.imm l),(2,.full []),(4,.bool b)] h kq kq ?_;refine wIf kq b kq (fun e=>?_) (fun _=>?_)
 . have hl:=hb0 e;subst hl;refine fu kq ?_;refine iJ kq (cY ?_);refine fh 1 kq ?_;refine ia kq ?_;refine ab ?_;refine wSt [2] [(2,.full [])] h kq kq ?_;refine jZ 2 7 dq rfl ?_;exact bq kq (fT rfl (.inr rfl) rfl hb hbl)
 . refine rX kq ?_;refine ab ?_;refine wSt [0,2] [(0,.imm l),(2,.full [])] h kq kq ?_;refine fu kq ?_;refine iJ kq (cY ?_);refine fh 2 kq ?_;refine i9 (v:=.own h.length 0 l.length) (h':=h++[.arr 7 l 0]) kq kq (kW (P:=cx.P) (t:=56) (l:=l) (h0:=h) kq kq iL ka ⟨by decide,by decide,hok⟩ hf) ?_;refine fh 1 kq ?_;refine ia kq ?_;refine ab ?_;exact bq kq (fT rfl (.inr rfl) rfl hb hbl)
noncomputable def Q3:Code:=aF Tryz.f29
theorem B3 (l:List aa) (h:ae) (hok:fE 13 l=true) (hf:gR l.length 224=true) (hb:h.all (ax.belO (h.length+1))=true) (hbl:aM (h.length+1) l=true) :
 aE cx 29 [.imm l] h (fun v h'=>v=.own h.length 0 l.length/\h'=h++[.arr 13 l 0]):=by
 refine fo (cx:=cx) 8 h.length [.tmp 2] Tryz.func29 rfl rfl rfl rfl rfl zq ?_;show wpA cx 8 h.length (at_ Q3 []) _ _ _;refine wSt [0] [(0,.imm l)] h kq rfl ?_;refine fu kq ?_;refine iJ kq (cY ?_);refine fh 1 kq ?_;refine ia kq ?_;refine ab ?_;refine wSt [0,2] [(0,.imm l),(2,.full [])] h kq kq ?_;refine fu kq ?_;refine fu kq ?_;refine iJ kq (cY ?_);refine fh 1 kq ?_;refine lj (L:=(bif l.isEmpty then [true,false] else [false]).map fun b=>(.bool b,h)) kq kq kq kq kq ?_;intro r hr;obtain ⟨b,rfl,hb0⟩:=nJ hr;refine ia kq ?_;refine ab ?_;refine wSt [0,2,4] [(0,.imm l),(2,.full []),(4,.bool b)] h kq kq ?_;refine wIf kq b kq (fun e=>?_) (fun _=>?_)
 . have hl:=hb0 e;subst hl;refine fu kq ?_;refine iJ kq (cY ?_);refine fh 1 kq ?_;refine ia kq ?_;refine ab ?_;refine wSt [2] [(2,.full [])] h kq kq ?_;refine jZ 2 13 dq rfl ?_;exact bq kq (fT rfl (.inr rfl) rfl hb hbl)
 . refine rX kq ?_;refine ab ?_;refine wSt [0,2] [(0,.imm l),(2,.full [])] h kq kq ?_;refine fu kq ?_;refine iJ kq (cY ?_);refine fh 2 kq ?_;refine i9 (v:=.own h.length 0 l.length) (h':=h++[.arr 13 l 0]) kq kq (kW (P:=cx.P) (t:=26) (l:=l) (h0:=h) kq kq b7 cN ⟨by decide,by decide,hok⟩ hf) ?_;refine fh 1 kq ?_;refine ia kq ?_;refine ab ?_;exact bq kq (fT rfl (.inr rfl) rfl hb hbl)
def im (sz by':Nat):List aa->ae->Option (aa×ae)
 | [.imm l],h=>bif fE sz l && gR l.length by' && h.all (ax.belO (h.length+1)) && aM (h.length+1) l then some (.own h.length 0 l.length,h++[.arr sz l 0]) else none
 | _,_=>none
theorem eE {sz by':Nat} {args:List aa} {h:ae} {r:aa×ae} (hr:im sz by' args h=some r) :
 ∃ l,args=[.imm l]/\fE sz l=true/\gR l.length by'=true/\h.all (ax.belO (h.length+1))=true/\aM (h.length+1) l=true/\r=(.own h.length 0 l.length,h++[.arr sz l 0]):=by
 unfold im at hr;split at hr
 . rename_i h' l;cases hc:fE sz l && gR l.length by' && h.all (ax.belO (h.length+1)) && aM (h.length+1) l with
   | false=>rw [hc] at hr;simp at hr
   | true =>
    rw [hc] at hr;simp only [cond_true,Option.some.injEq] at hr;simp only [Bool.and_eq_true] at hc;exact ⟨l,rfl,hc.1.1.1,hc.1.1.2,hc.1.2,hc.2,hr.symm⟩
 . simp at hr
def uF:xl:=fun f args h =>
 bif Nat.beq f 78 then im 6 96 args h
 else bif Nat.beq f 79 then im 1 16 args h
 else bif Nat.beq f 80 then im 2 32 args h
 else bif Nat.beq f 55 then im 7 104 args h
 else bif Nat.beq f 29 then im 13 224 args h
 else none
def lg:md:=fun f args h=>bif Nat.beq f 78 || Nat.beq f 79 || Nat.beq f 80 || Nat.beq f 55 || Nat.beq f 29 then w8 (fun _ _ _=>none) uF (fun _=>false) f args h else none
theorem zK:yB cx uF:=by
 intro f args h r hr;unfold uF at hr;cases h0:Nat.beq f 78 with
 | true =>
  simp only [h0,cond_true,cond_false] at hr;obtain ⟨l,rfl,q1,q2,q3,q4,rfl⟩:=eE hr;rw [Nat.eq_of_beq_eq_true h0];exact Cf l h q1 q2 q3 q4
 | false =>
 cases h1:Nat.beq f 79 with
 | true =>
  simp only [h0,h1,cond_true,cond_false] at hr;obtain ⟨l,rfl,q1,q2,q3,q4,rfl⟩:=eE hr;rw [Nat.eq_of_beq_eq_true h1];exact A2 l h q1 q2 q3 q4
 | false =>
 cases h2:Nat.beq f 80 with
 | true =>
  simp only [h0,h1,h2,cond_true,cond_false] at hr;obtain ⟨l,rfl,q1,q2,q3,q4,rfl⟩:=eE hr;rw [Nat.eq_of_beq_eq_true h2];exact A4 l h q1 q2 q3 q4
 | false =>
 cases h3:Nat.beq f 55 with
 | true =>
  simp only [h0,h1,h2,h3,cond_true,cond_false] at hr;obtain ⟨l,rfl,q1,q2,q3,q4,rfl⟩:=eE hr;rw [Nat.eq_of_beq_eq_true h3];exact AR l h q1 q2 q3 q4
 | false =>
 cases h4:Nat.beq f 29 with
 | true =>
  simp only [h0,h1,h2,h3,h4,cond_true,cond_false] at hr;obtain ⟨l,rfl,q1,q2,q3,q4,rfl⟩:=eE hr;rw [Nat.eq_of_beq_eq_true h4];exact B3 l h q1 q2 q3 q4
 | false =>
 simp [h0,h1,h2,h3,h4] at hr
theorem Hj:∀ f args h r,lg f args h=some r->jq cx f args h r.1 r.2.1 r.2.2:=by
 intro f args h r hr;unfold lg at hr;cases hc:Nat.beq f 78 || Nat.beq f 79 || Nat.beq f 80 || Nat.beq f 55 || Nat.beq f 29 with
 | false=>rw [hc] at hr;simp at hr
 | true =>
  rw [hc] at hr;simp only [cond_true] at hr;exact ln (raw:=fun _=>false) (lg:=fun _ _ _=>none) zq zK f args h r hr
end Go.Proofs.YtcpklndelobigaaGreatDoor
