/- A part of the proof: plain lemmas and walks. No condition. -/
import Derived.Test.YtcpklndelobigaaGreatDoorTy
import Derived.Test.YtcpklndelobigaaGreatDoorAbsd
set_option linter.all false
namespace Go.Proofs.YtcpklndelobigaaGreatDoor
open Go.Proofs.YtcpklndelobigaaGreatDoor.Abs
set_option maxRecDepth 20000
set_option maxHeartbeats 4000000
def fZ (f:Func):Code:=match f.body with
 | some c=>c
 | none=>.skip
theorem fI {cx:Cx} {h:af} {f:FuncId} {fn:Func} {args:List aa} {Q:aa->af->Prop} (n m:Nat) (rs:List ResultVar) (hf:cx.P.funcs[f]?=some fn)
 (hk : (fn.body.isSome, fn.name == "runtime.NumGoroutine", fn.ntmps, fn.results.toList, h.length, Nat.ble args.length n) = (true, false, n, rs, m, true)) (hw:wpA cx n m (at_ (fZ fn) []) (Fin cx rs m Q) (lm 0 args) h):av cx f args h Q:=by
 simp only [Prod.mk.injEq] at hk;obtain ⟨h1,h2,h3,h4,h5,h6⟩:=hk;refine Cc n m rs hf (c:=fZ fn) ?_ h2 h3 h4 h5 (Nat.le_of_ble_eq_true h6) hw;unfold fZ;cases hb:fn.body <;> simp_all
def wY:List aa:=[.str [97,110,100],.str [97,115],.str [99,104,101,99,107],.str [100,101,108,101,116,101],.str [101,108,115,101],.str [102,97,108,115,101],.str [102,117,110],.str [105,102],.str [105,110],.str [105,110,115,101,114,116],.str [107,101,121],.str [108,101,116],.str [109,97,116,99,104],.str [110,111,116],.str [111,114],.str [112,114,111,99],.str [114,101,102],.str [115,101,116],.str [116,97,98,108,101],.str [116,104,101,110],.str [116,111],.str [116,114,117,101],.str [116,121,112,101],.str [117,112,100,97,116,101],.str [119,104,101,114,101],.str [119,105,116,104]]
def xh:List aa:=[.str [61,61],.str [33,61],.str [60,61],.str [60,45],.str [45,62],.str [43,43],.str [60],.str [62],.str [61],.str [43],.str [45],.str [42],.str [40],.str [41],.str [123],.str [125],.str [91],.str [93],.str [44],.str [46],.str [58],.str [124],.str [59],.str [63]]
noncomputable def cx:Cx:=⟨Tryz.prog,fun g=>bif Nat.beq g 5 then some wY else bif Nat.beq g 6 then some xh else none⟩
theorem cxM:cx.P.follows .mixedOrders=true:=by kernel_rfl
theorem nZ {l:List aa} {h:af} {r:aa×af} (hr:r∈(bif l.isEmpty then [true,false] else [false]).map fun b=>((.bool b:aa),h)):∃ b,r=(.bool b,h)/\(b=true->l=[]):=by
 obtain ⟨b,hb,rfl⟩:=List.mem_map.1 hr;refine ⟨b,rfl,?_⟩;rintro rfl;cases l with
 | nil=>rfl
 | cons x l=>simp at hb
theorem ma {P:Program} {ev:Operand->aa} {op:Op} {h h0:af} {l:List aa} {t e a b a' b':Nat} {z z':aa} {ek:TyK} (hv:uU ev op=some (.append,[t,t],[.full [],.imm l])) (hh:h=h0)
 (ht:aP P t=some ⟨.slice e,a,b,z⟩) (he:aP P e=some ⟨ek,a',b',z'⟩) (hc:0<a'/\z'.cells.length=a'/\gk a' l=true) (hf:iC l.length b'=true) :
 aop P h ev op=some (.own h0.length 0 l.length,h0++[.arr a' l 0]):=by
 subst hh;rw [iE hv];simp only [dT,kE,ht,he,fz];rw [if_pos hc,if_pos ⟨rfl,rfl,by simpa using hf⟩];simp
abbrev yY (h:af):=am.belO (h.length+1)
theorem gD {cx:Cx} {m:Nat} {l:List aa} {h:af} {sz r:Nat} {T:Tm} {e:Exit} (hm:m=h.length) (he:e=.normal\/e=.ret) (hT:Tm.get T r=.own h.length 0 l.length) (hb:h.all (yY h)=true) (hbl:aC (h.length+1) l=true) :
 CU cx [.tmp r] m (fun v h'=>v=.own h.length 0 l.length/\h'=h++[.arr sz l 0]) e T (h++[.arr sz l 0]):=by
 have ht:(h++[am.arr sz l 0]).take (h.length+1)=h++[.arr sz l 0]:=List.take_of_length_le zq;refine ⟨he,[.own h.length 0 l.length],by simp [gu,hT],h.length+1,by omega,by simp [aZ,aa.bel],?_,rfl,ht⟩;rw [ht,List.all_append,hb];simp [am.belO,hbl]
noncomputable def WN:Code:=fZ Tryz.f78
abbrev uG (l:List aa):List (Nat×aa):=[(0,.imm l),(2,.full [])]
theorem DV (l:List aa) (h:af) (hok:gk 6 l=true) (hf:iC l.length 96=true) (hb:h.all (yY h)=true) (hbl:aC (h.length+1) l=true) :
 av cx 78 [.imm l] h (fun v h'=>v=.own h.length 0 l.length/\h'=h++[.arr 6 l 0]):=by
 refine ed (cx:=cx) 8 h.length [.tmp 2] Tryz.func78 rfl rfl rfl rfl rfl zq ?_;show wpA cx 8 h.length (at_ WN []) _ _ _;refine wSt [0] [(0,.imm l)] h kq rfl ?_;refine fS kq ?_;refine jv kq (dt ?_);refine fJ 1 kq ?_;refine iY kq ?_;refine ab ?_;refine wSt [0,2] (uG l) h kq kq ?_;refine fS kq ?_;refine fS kq ?_;refine jv kq (dt ?_);refine fJ 1 kq ?_;refine lY (L:=(bif l.isEmpty then [true,false] else [false]).map fun b=>(.bool b,h)) kq kq kq kq kq ?_;intro r hr;obtain ⟨b,rfl,hb0⟩:=nZ hr;refine iY kq ?_;refine ab ?_;refine wSt [0,2,4] [(0,.imm l),(2,.full []),(4,.bool b)] h kq kq ?_;refine wIf kq b kq (fun e=>?_) (fun _=>?_)
 . have hl:=hb0 e;subst hl;refine fS kq ?_;refine jv kq (dt ?_);refine fJ 1 kq ?_;refine iY kq ?_;refine ab ?_;refine wSt [2] [(2,.full [])] h kq kq ?_;refine jg 2 6 dq rfl ?_;exact aJ kq (gD rfl (.inr rfl) rfl hb hbl)
 . refine sE kq ?_;refine ab ?_;refine wSt [0,2] (uG l) h kq kq ?_;refine fS kq ?_;refine jv kq (dt ?_);refine fJ 2 kq ?_;refine kc (v:=.own h.length 0 l.length) (h':=h++[.arr 6 l 0]) kq kq (ma (P:=cx.P) (t:=46) (l:=l) (h0:=h) kq kq em j5 ⟨by decide,by decide,hok⟩ hf) ?_;refine fJ 1 kq ?_;refine iY kq ?_;refine ab ?_;exact aJ kq (gD rfl (.inr rfl) rfl hb hbl)
noncomputable def WE:Code:=fZ Tryz.f79
theorem Dq (l:List aa) (h:af) (hok:gk 1 l=true) (hf:iC l.length 16=true) (hb:h.all (yY h)=true) (hbl:aC (h.length+1) l=true) :
 av cx 79 [.imm l] h (fun v h'=>v=.own h.length 0 l.length/\h'=h++[.arr 1 l 0]):=by
 refine ed (cx:=cx) 8 h.length [.tmp 2] Tryz.func79 rfl rfl rfl rfl rfl zq ?_;show wpA cx 8 h.length (at_ WE []) _ _ _;refine wSt [0] [(0,.imm l)] h kq rfl ?_;refine fS kq ?_;refine jv kq (dt ?_);refine fJ 1 kq ?_;refine iY kq ?_;refine ab ?_;refine wSt [0,2] (uG l) h kq kq ?_;refine fS kq ?_;refine fS kq ?_;refine jv kq (dt ?_);refine fJ 1 kq ?_;refine lY (L:=(bif l.isEmpty then [true,false] else [false]).map fun b=>(.bool b,h)) kq kq kq kq kq ?_;intro r hr;obtain ⟨b,rfl,hb0⟩:=nZ hr;refine iY kq ?_;refine ab ?_;refine wSt [0,2,4] [(0,.imm l),(2,.full []),(4,.bool b)] h kq kq ?_;refine wIf kq b kq (fun e=>?_) (fun _=>?_)
 . have hl:=hb0 e;subst hl;refine fS kq ?_;refine jv kq (dt ?_);refine fJ 1 kq ?_;refine iY kq ?_;refine ab ?_;refine wSt [2] [(2,.full [])] h kq kq ?_;refine jg 2 1 dq rfl ?_;exact aJ kq (gD rfl (.inr rfl) rfl hb hbl)
 . refine sE kq ?_;refine ab ?_;refine wSt [0,2] (uG l) h kq kq ?_;refine fS kq ?_;refine jv kq (dt ?_);refine fJ 2 kq ?_;refine kc (v:=.own h.length 0 l.length) (h':=h++[.arr 1 l 0]) kq kq (ma (P:=cx.P) (t:=40) (l:=l) (h0:=h) kq kq a6 ty9 ⟨by decide,by decide,hok⟩ hf) ?_;refine fJ 1 kq ?_;refine iY kq ?_;refine ab ?_;exact aJ kq (gD rfl (.inr rfl) rfl hb hbl)
noncomputable def WU:Code:=fZ Tryz.f80
theorem Ds (l:List aa) (h:af) (hok:gk 2 l=true) (hf:iC l.length 32=true) (hb:h.all (yY h)=true) (hbl:aC (h.length+1) l=true) :
 av cx 80 [.imm l] h (fun v h'=>v=.own h.length 0 l.length/\h'=h++[.arr 2 l 0]):=by
 refine ed (cx:=cx) 8 h.length [.tmp 2] Tryz.func80 rfl rfl rfl rfl rfl zq ?_;show wpA cx 8 h.length (at_ WU []) _ _ _;refine wSt [0] [(0,.imm l)] h kq rfl ?_;refine fS kq ?_;refine jv kq (dt ?_);refine fJ 1 kq ?_;refine iY kq ?_;refine ab ?_;refine wSt [0,2] (uG l) h kq kq ?_;refine fS kq ?_;refine fS kq ?_;refine jv kq (dt ?_);refine fJ 1 kq ?_;refine lY (L:=(bif l.isEmpty then [true,false] else [false]).map fun b=>(.bool b,h)) kq kq kq kq kq ?_;intro r hr;obtain ⟨b,rfl,hb0⟩:=nZ hr;refine iY kq ?_;refine ab ?_;refine wSt [0,2,4] [(0,.imm l),(2,.full []),(4,.bool b)] h kq kq ?_;refine wIf kq b kq (fun e=>?_) (fun _=>?_)
 . have hl:=hb0 e;subst hl;refine fS kq ?_;refine jv kq (dt ?_);refine fJ 1 kq ?_;refine iY kq ?_;refine ab ?_;refine wSt [2] [(2,.full [])] h kq kq ?_;refine jg 2 2 dq rfl ?_;exact aJ kq (gD rfl (.inr rfl) rfl hb hbl)
 . refine sE kq ?_;refine ab ?_;refine wSt [0,2] (uG l) h kq kq ?_;refine fS kq ?_;refine jv kq (dt ?_);refine fJ 2 kq ?_;refine kc (v:=.own h.length 0 l.length) (h':=h++[.arr 2 l 0]) kq kq (ma (P:=cx.P) (t:=50) (l:=l) (h0:=h) kq kq ge mW ⟨by decide,by decide,hok⟩ hf) ?_;refine fJ 1 kq ?_;refine iY kq ?_;refine ab ?_;exact aJ kq (gD rfl (.inr rfl) rfl hb hbl)
noncomputable def Xw:Code:=fZ Tryz.f55
theorem yl (l:List aa) (h:af) (hok:gk 7 l=true) (hf:iC l.length 104=true) (hb:h.all (yY h)=true) (hbl:aC (h.length+1) l=true) :
 av cx 55 [.imm l] h (fun v h'=>v=.own h.length 0 l.length/\h'=h++[.arr 7 l 0]):=by
 refine ed (cx:=cx) 8 h.length [.tmp 2] Tryz.func55 rfl rfl rfl rfl rfl zq ?_;show wpA cx 8 h.length (at_ Xw []) _ _ _;refine wSt [0] [(0,.imm l)] h kq rfl ?_;refine fS kq ?_;refine jv kq (dt ?_);refine fJ 1 kq ?_;refine iY kq ?_;refine ab ?_;refine wSt [0,2] (uG l) h kq kq ?_;refine fS kq ?_;refine fS kq ?_;refine jv kq (dt ?_);refine fJ 1 kq ?_;refine lY (L:=(bif l.isEmpty then [true,false] else [false]).map fun b=>(.bool b,h)) kq kq kq kq kq ?_;intro r hr;obtain ⟨b,rfl,hb0⟩:=nZ hr;refine iY kq ?_;refine ab ?_;refine wSt [0,2,4] [(0,.imm l),(2,.full []),(4,.bool b)] h kq kq ?_;refine wIf kq b kq (fun e=>?_) (fun _=>?_)
 . have hl:=hb0 e;subst hl;refine fS kq ?_;refine jv kq (dt ?_);refine fJ 1 kq ?_;refine iY kq ?_;refine ab ?_;refine wSt [2] [(2,.full [])] h kq kq ?_;refine jg 2 7 dq rfl ?_;exact aJ kq (gD rfl (.inr rfl) rfl hb hbl)
 . refine sE kq ?_;refine ab ?_;refine wSt [0,2] (uG l) h kq kq ?_;refine fS kq ?_;refine jv kq (dt ?_);refine fJ 2 kq ?_;refine kc (v:=.own h.length 0 l.length) (h':=h++[.arr 7 l 0]) kq kq (ma (P:=cx.P) (t:=56) (l:=l) (h0:=h) kq kq gM mn ⟨by decide,by decide,hok⟩ hf) ?_;refine fJ 1 kq ?_;refine iY kq ?_;refine ab ?_;exact aJ kq (gD rfl (.inr rfl) rfl hb hbl)
noncomputable def Wd:Code:=fZ Tryz.f29
theorem D2 (l:List aa) (h:af) (hok:gk 13 l=true) (hf:iC l.length 224=true) (hb:h.all (yY h)=true) (hbl:aC (h.length+1) l=true) :
 av cx 29 [.imm l] h (fun v h'=>v=.own h.length 0 l.length/\h'=h++[.arr 13 l 0]):=by
 refine ed (cx:=cx) 8 h.length [.tmp 2] Tryz.func29 rfl rfl rfl rfl rfl zq ?_;show wpA cx 8 h.length (at_ Wd []) _ _ _;refine wSt [0] [(0,.imm l)] h kq rfl ?_;refine fS kq ?_;refine jv kq (dt ?_);refine fJ 1 kq ?_;refine iY kq ?_;refine ab ?_;refine wSt [0,2] (uG l) h kq kq ?_;refine fS kq ?_;refine fS kq ?_;refine jv kq (dt ?_);refine fJ 1 kq ?_;refine lY (L:=(bif l.isEmpty then [true,false] else [false]).map fun b=>(.bool b,h)) kq kq kq kq kq ?_;intro r hr;obtain ⟨b,rfl,hb0⟩:=nZ hr;refine iY kq ?_;refine ab ?_;refine wSt [0,2,4] [(0,.imm l),(2,.full []),(4,.bool b)] h kq kq ?_;refine wIf kq b kq (fun e=>?_) (fun _=>?_)
 . have hl:=hb0 e;subst hl;refine fS kq ?_;refine jv kq (dt ?_);refine fJ 1 kq ?_;refine iY kq ?_;refine ab ?_;refine wSt [2] [(2,.full [])] h kq kq ?_;refine jg 2 13 dq rfl ?_;exact aJ kq (gD rfl (.inr rfl) rfl hb hbl)
 . refine sE kq ?_;refine ab ?_;refine wSt [0,2] (uG l) h kq kq ?_;refine fS kq ?_;refine jv kq (dt ?_);refine fJ 2 kq ?_;refine kc (v:=.own h.length 0 l.length) (h':=h++[.arr 13 l 0]) kq kq (ma (P:=cx.P) (t:=26) (l:=l) (h0:=h) kq kq cD d3 ⟨by decide,by decide,hok⟩ hf) ?_;refine fJ 1 kq ?_;refine iY kq ?_;refine ab ?_;exact aJ kq (gD rfl (.inr rfl) rfl hb hbl)
def i4 (sz by':Nat):List aa->af->Option (aa×af)
 | [.imm l],h=>bif gk sz l && iC l.length by' && h.all (am.belO (h.length+1)) && aC (h.length+1) l then some (.own h.length 0 l.length,h++[.arr sz l 0]) else none
 | _,_=>none
theorem e8 {sz by':Nat} {args:List aa} {h:af} {r:aa×af} (hr:i4 sz by' args h=some r) :
 ∃ l,args=[.imm l]/\gk sz l=true/\iC l.length by'=true/\h.all (yY h)=true/\aC (h.length+1) l=true/\r=(.own h.length 0 l.length,h++[.arr sz l 0]):=by
 unfold i4 at hr;split at hr
 . rename_i h' l;cases hc:gk sz l && iC l.length by' && h.all (yY h) && aC (h.length+1) l with
   | false=>rw [hc] at hr;simp at hr
   | true =>
    rw [hc] at hr;simp only [cond_true,Option.some.injEq] at hr;simp only [Bool.and_eq_true] at hc;exact ⟨l,rfl,hc.1.1.1,hc.1.1.2,hc.1.2,hc.2,hr.symm⟩
 . simp at hr
def xZ:yP:=fun f args h =>
 bif Nat.beq f 78 then i4 6 96 args h
 else bif Nat.beq f 79 then i4 1 16 args h
 else bif Nat.beq f 80 then i4 2 32 args h
 else bif Nat.beq f 55 then i4 7 104 args h
 else bif Nat.beq f 29 then i4 13 224 args h
 else none
def mr:m8:=fun f args h=>bif Nat.beq f 78 || Nat.beq f 79 || Nat.beq f 80 || Nat.beq f 55 || Nat.beq f 29 then Ac (fun _ _ _=>none) xZ (fun _=>false) f args h else none
theorem B8:Ae cx xZ:=by
 intro f args h r hr;unfold xZ at hr;cases h0:Nat.beq f 78 with
 | true =>
  simp only [h0,cond_true,cond_false] at hr;obtain ⟨l,rfl,q1,q2,q3,q4,rfl⟩:=e8 hr;rw [Nat.eq_of_beq_eq_true h0];exact DV l h q1 q2 q3 q4
 | false =>
 cases h1:Nat.beq f 79 with
 | true =>
  simp only [h0,h1,cond_true,cond_false] at hr;obtain ⟨l,rfl,q1,q2,q3,q4,rfl⟩:=e8 hr;rw [Nat.eq_of_beq_eq_true h1];exact Dq l h q1 q2 q3 q4
 | false =>
 cases h2:Nat.beq f 80 with
 | true =>
  simp only [h0,h1,h2,cond_true,cond_false] at hr;obtain ⟨l,rfl,q1,q2,q3,q4,rfl⟩:=e8 hr;rw [Nat.eq_of_beq_eq_true h2];exact Ds l h q1 q2 q3 q4
 | false =>
 cases h3:Nat.beq f 55 with
 | true =>
  simp only [h0,h1,h2,h3,cond_true,cond_false] at hr;obtain ⟨l,rfl,q1,q2,q3,q4,rfl⟩:=e8 hr;rw [Nat.eq_of_beq_eq_true h3];exact yl l h q1 q2 q3 q4
 | false =>
 cases h4:Nat.beq f 29 with
 | true =>
  simp only [h0,h1,h2,h3,h4,cond_true,cond_false] at hr;obtain ⟨l,rfl,q1,q2,q3,q4,rfl⟩:=e8 hr;rw [Nat.eq_of_beq_eq_true h4];exact D2 l h q1 q2 q3 q4
 | false =>
 simp [h0,h1,h2,h3,h4] at hr
theorem Nr:∀ f args h r,mr f args h=some r->kr cx f args h r.1 r.2.1 r.2.2:=by
 intro f args h r hr;unfold mr at hr;cases hc:Nat.beq f 78 || Nat.beq f 79 || Nat.beq f 80 || Nat.beq f 55 || Nat.beq f 29 with
 | false=>rw [hc] at hr;simp at hr
 | true =>
  rw [hc] at hr;simp only [cond_true] at hr;exact lV (raw:=fun _=>false) (mr:=fun _ _ _=>none) zq B8 f args h r hr
end Go.Proofs.YtcpklndelobigaaGreatDoor
namespace Go.Proofs.YtcpklndelobigaaGreatDoor
open Go.Proofs.YtcpklndelobigaaGreatDoor.Abs
inductive Ty where
 | mk (kind:Int) (name:List UInt8) (n:Int) (names:List (List UInt8)) (kids:List Ty)
def Ty.kind:Ty->Int|.mk k _ _ _ _=>k
def Ty.name:Ty->List UInt8|.mk _ x _ _ _=>x
def Ty.n:Ty->Int|.mk _ _ n _ _=>n
def Ty.names:Ty->List (List UInt8)|.mk _ _ _ l _=>l
def Ty.kids:Ty->List Ty|.mk _ _ _ _ l=>l
def Ty.zero:Ty:=.mk 0 [] 0 [] []
mutual
def Ty.enc:Ty->aa
 | .mk k x n l ks=>.agg [.int .i64 k,.str x,.int .i64 n,.imm (l.map .str),.imm (Ty.encL ks)]
def Ty.encL:List Ty->List aa
 | []=>[]
 | t::l=>t.enc::Ty.encL l
end
theorem Ty.encL_map:∀ l,Ty.encL l=l.map Ty.enc
 | []=>rfl
 | t::l=>by rw [Ty.encL,Ty.encL_map l];rfl
abbrev Ty.bx (t:Ty):am:=.box [.int .i64 t.kind,.str t.name,.int .i64 t.n,.imm (t.names.map .str),.imm (t.kids.map Ty.enc)]
def Ty.v (t:Ty):aa:=.agg [.int .i64 t.kind,.str t.name,.int .i64 t.n,.imm (t.names.map .str),.imm (t.kids.map Ty.enc)]
theorem Ty.enc_v (t:Ty):t.enc=t.v:=by cases t;simp only [Ty.enc,Ty.encL_map];rfl
theorem dz (t:Ty):t.enc.cells=[.int .i64 t.kind,.str t.name,.int .i64 t.n,.imm (t.names.map .str),.imm (t.kids.map Ty.enc)]:=by rw [Ty.enc_v];rfl
theorem d6 (t:Ty):t.enc.cells.length=5:=by rw [dz];rfl
theorem wg (t:Ty):(t.enc.cells.length==5 && t.enc.cells.all aa.cellOk)=true:=by rw [dz];rfl
mutual
theorem Ty.frz_enc (h:af):∀ t:Ty,t.enc.frz h=t.enc
 | .mk k x n l ks=>by simp only [Ty.enc,aa.frz,aN,pU,Ty.frz_encL h ks]
theorem Ty.frz_encL (h:af):∀ l:List Ty,aN h (Ty.encL l)=Ty.encL l
 | []=>rfl
 | t::l=>by simp only [Ty.encL,aN,Ty.frz_enc h t,Ty.frz_encL h l]
end
mutual
theorem Ty.bel_enc (k:Nat):∀ t:Ty,t.enc.bel k=true
 | .mk _ x n l ks=>by simp only [Ty.enc,aa.bel,aC,mI,Ty.bel_encL k ks,Bool.and_self]
theorem Ty.bel_encL (k:Nat):∀ l:List Ty,aC k (Ty.encL l)=true
 | []=>rfl
 | t::l=>by simp only [Ty.encL,aC,Ty.bel_enc k t,Ty.bel_encL k l,Bool.and_self]
end
mutual
theorem Ty.owns_enc:∀ t:Ty,t.enc.owns=[]
 | .mk _ x n l ks=>by simp only [Ty.enc,aa.owns,aF,sK,Ty.owns_encL ks,List.append_nil]
theorem Ty.owns_encL:∀ l:List Ty,aF (Ty.encL l)=[]
 | []=>rfl
 | t::l=>by simp only [Ty.encL,aF,Ty.owns_enc t,Ty.owns_encL l,List.append_nil]
end
@[simp] theorem Ts (h:af) (l:List Ty):aN h (l.map Ty.enc)=l.map Ty.enc:=bf h (Ty.frz_enc h) l
@[simp] theorem UD (k:Nat) (l:List Ty):aC k (l.map Ty.enc)=true:=cG k (Ty.bel_enc k) l
@[simp] theorem R9 (l:List Ty):aF (l.map Ty.enc)=[]:=cj Ty.owns_enc l
@[simp] theorem Na (h:af) (t:Ty):t.v.frz h=t.v:=by simp [Ty.v]
@[simp] theorem VW (k:Nat) (t:Ty):t.v.bel k=true:=by simp [Ty.v]
@[simp] theorem Vo (t:Ty):t.v.owns=[]:=by simp [Ty.v]
def szS:List (List UInt8)->Nat
 | []=>0
 | x::l=>x.length+1+szS l
mutual
def Ty.sz:Ty->Nat
 | .mk _ x _ l ks=>1+x.length+szS l+Ty.szL ks
def Ty.szL:List Ty->Nat
 | []=>0
 | t::l=>t.sz+1+Ty.szL l
end
theorem nN:∀ l,l.length<=szS l
 | []=>Nat.le_refl _
 | x::l=>by have:=nN l;simp [szS];omega
theorem D4:∀ l,l.length<=Ty.szL l
 | []=>Nat.le_refl _
 | x::l=>by have:=D4 l;simp [Ty.szL];omega
theorem y5:∀ (l:List Ty) (i:Nat),i<l.length->(l.getD i Ty.zero).sz<Ty.szL l
 | [],i,h=>by simp at h
 | x::l,0,_=>by simp [Ty.szL];omega
 | x::l,i+1,h=>by have:=y5 l i (by simpa using h);simp [Ty.szL] at *;omega
theorem sF (t:Ty):t.sz=1+t.name.length+szS t.names+Ty.szL t.kids:=by cases t;simp [Ty.sz,Ty.name,Ty.names,Ty.kids]
theorem j3 (t:Ty):t.names.length<t.sz:=by have:=nN t.names;have e:=sF t;omega
theorem jD (t:Ty):t.kids.length<t.sz:=by have:=D4 t.kids;have e:=sF t;omega
theorem fV (t:Ty) (i:Nat) (h:i<t.kids.length):(t.kids.getD i Ty.zero).sz<t.sz:=by have:=y5 t.kids i h;have e:=sF t;omega
def br {α β:Type} (p:α->β->Bool):List α->List β->Bool
 | [],[]=>true
 | x::xs,y::ys=>p x y && br p xs ys
 | _,_=>false
theorem cT {α β:Type} (p:α->β->Bool):∀ (a:List α) (b:List β),a.length≠b.length->br p a b=false
 | [],[],h=>absurd rfl h
 | [],_::_,_=>rfl
 | _::_,[],_=>rfl
 | x::a,y::b,h=>by rw [br,cT p a b (fun e=>h (by simp [e])),Bool.and_false]
theorem cq {α β:Type} (p:α->β->Bool) (d:α) (e:β):∀ (a:List α) (b:List β),a.length=b.length->(∀ i,i<a.length->p (a.getD i d) (b.getD i e)=true)->br p a b=true
 | [],[],_,_=>rfl
 | [],_::_,h,_=>by simp at h
 | _::_,[],h,_=>by simp at h
 | x::a,y::b,h,hp=>by
  have h0:=hp 0 zq;simp at h0;rw [br,h0,cq p d e a b (by simpa using h) (fun i hi=>by simpa using hp (i+1) (by simpa using hi))];rfl
theorem ef {α β:Type} (p:α->β->Bool) (d:α) (e:β):∀ (a:List α) (b:List β) (i:Nat),a.length=b.length->i<a.length->p (a.getD i d) (b.getD i e)=false->br p a b=false
 | [],_,i,_,hi,_=>by simp at hi
 | _::_,[],_,h,_,_=>by simp at h
 | x::a,y::b,0,_,_,hp=>by simp at hp;rw [br,hp];rfl
 | x::a,y::b,i+1,h,hi,hp=>by rw [br,ef p d e a b i (by simpa using h) (by simpa using hi) (by simpa using hp),Bool.and_false]
theorem mM {α:Type} [BEq α] [LawfulBEq α]:∀ (a b:List α),br (·==·) a b=(a==b)
 | [],[]=>rfl
 | [],_::_=>rfl
 | _::_,[]=>rfl
 | x::a,y::b=>by rw [br,mM a b];rfl
mutual
def Ty.beq:Ty->Ty->Bool
 | .mk k x n l ks,.mk k' x' n' l' ks'=>(k==k') && ((x==x') && ((n==n') && ((l==l') && Ty.beqL ks ks')))
def Ty.beqL:List Ty->List Ty->Bool
 | [],[]=>true
 | x::xs,y::ys=>x.beq y && Ty.beqL xs ys
 | _,_=>false
end
theorem Ap:∀ a b,Ty.beqL a b=br Ty.beq a b
 | [],[]=>rfl
 | [],_::_=>rfl
 | _::_,[]=>rfl
 | x::a,y::b=>by rw [Ty.beqL,br,Ap a b]
theorem beq_eq (a b:Ty):a.beq b=((a.kind==b.kind) && ((a.name==b.name) && ((a.n==b.n) && ((a.names==b.names) && br Ty.beq a.kids b.kids)))):=by
 cases a;cases b;simp only [Ty.beq,Ap];rfl
end Go.Proofs.YtcpklndelobigaaGreatDoor
namespace Go.Proofs.YtcpklndelobigaaGreatDoor
open Go.Proofs.YtcpklndelobigaaGreatDoor.Abs
set_option maxRecDepth 20000
set_option maxHeartbeats 4000000
theorem v7 {a b:List (List UInt8)} (hl:a.length=b.length) (h:∀ i,i<a.length->a.getD i []=b.getD i []):true=(a==b):=by
 rw [<- mM,cq (·==·) [] [] a b hl (fun i hi=>by simpa using h i hi)]
theorem DY {a b:List (List UInt8)} {i:Nat} (hl:a.length=b.length) (hi:i<a.length) (h:¬ a.getD i []=b.getD i []):false=(a==b):=by
 rw [<- mM,ef (·==·) [] [] a b i hl hi (by simpa using h)]
theorem zh {a b:List (List UInt8)} (hl:¬ ((a.length:Nat):Int)=((b.length:Nat):Int)):false=(a==b):=by
 rw [<- mM,cT _ a b oq]
theorem aA {p:Prop} (h:p:=by simp [nG,aa.bel]):p:=h
abbrev Fa (a:List (List UInt8))(k:Nat)(b:List (List UInt8)):=!((a.getD k [])==(b.getD k []))
theorem lO (a b:List (List UInt8)) (hn:a.length<1000000000):ae cx 42 [.imm (a.map aa.str),.imm (b.map aa.str)] (.bool (a==b)):=by
 refine fI 26 0 [(ResultVar.tmp 4)] Tryz.func42 kq ?_;refine zZ (fun _=>[(0,.imm (a.map aa.str)),(1,.imm (b.map aa.str))]) (fun _=>[]) ?_ ?_;apply zW 1 id id;apply ai;apply zV 1;refine qy (aj (l:=a) (enc:=aa.str) kq a6) ?_ ?_ ?_;apply qr 1;refine qy (aj (l:=b) (enc:=aa.str) kq a6) ?_ ?_ ?_;apply zR 1 (mU [(10,.bool (((a.length:Nat):Int) != ((b.length:Nat):Int)))]) id;by_cases hb1:((a.length:Nat):Int)=((b.length:Nat):Int);refine qf (x:=(((a.length:Nat):Int) != ((b.length:Nat):Int))) (bne_eq_false_iff_eq.2 hb1) ?_ ?_;apply qK;apply zZ (mT [] [10]) id;apply ai;apply zW 1 (mU [(5,.int .i64 0)]) id;apply qB 0;refine aT (σ:=Nat) (fun k=>[(0,.imm (a.map aa.str)),(1,.imm (b.map aa.str)),(5,.int .i64 ((k:Nat):Int))]) (fun k=>[]) (fun k=>k<=a.length/\∀ i,i<k->a.getD i []=b.getD i []) (fun k=>a.length - k) 0 kq zq (fg kq kq aA zq) ?_;rintro k ⟨hk,ha⟩;apply ai;apply zV 2;refine qy (aj (l:=a) (enc:=aa.str) kq a6) ?_ ?_ ?_;apply zR 1 (mU [(14,.bool (decide (((k:Nat):Int)<((a.length:Nat):Int))))]) id;by_cases hb2:((k:Nat):Int)<((a.length:Nat):Int);apply qt (decide_eq_true hb2);apply qK;apply zZ (mT [] [14]) id;apply ai;apply qB 1;apply ai;refine zD cxM kq ax ?_;apply qu 2;refine qd (au (k:=.i64) (l:=a) (enc:=aa.str) (i:=((k:Nat):Int)) [] kq a6 ty9 (fun _=>rfl) oq oq) ?_ ?_ ?_ ?_;apply qu 3;refine qd (au (k:=.i64) (l:=b) (enc:=aa.str) (i:=((k:Nat):Int)) [] kq a6 ty9 (fun _=>rfl) oq oq) ?_ ?_ ?_ ?_;apply qu 2;refine bY kq ⟨kq,?_⟩;refine zE (mU [(25,.bool (Fa a k b))]) id ?_ ?_;by_cases hb3:(a.getD k [])=(b.getD k []);refine qf (x:=(Fa a k b)) (congrArg not (beq_iff_eq.2 hb3)) ?_ ?_;refine qk ?_ ?_;refine ag ?_;apply ab;apply zZ (mT [] [25]) id;apply qo;apply qr 1;refine qy (az (a:=((k:Nat):Int)) (b:=1) kq oq oq) ?_ ?_ ?_;apply qr 1;apply qe;refine ab ⟨k+1,?_,?_,(fg kq kq aA zq)⟩
 . omega
 . refine ⟨by omega,fun i hi=>?_⟩;rcases Nat.lt_succ_iff_lt_or_eq.1 hi with h|h
   . exact ha i h
   . subst h;assumption
 iterate 9 kernel_rfl
 refine qt (x:=(Fa a k b)) (congrArg not (beq_eq_false_iff_ne.2 hb3)) ?_ ?_;apply zV 1;refine qT ?_ ?_;apply iR;apply aR;apply aR;apply iR;apply aR;refine aD (b:=false) (.inr rfl) kq ?_
 rotate_left
 iterate 20 kernel_rfl
 apply qf (decide_eq_false hb2);refine aK 0 kq kq ?_;apply ac;apply ac;refine ao ?_;apply ab;refine zZ (fun _=>[]) (fun _=>[]) ?_ ?_;apply zV 1;refine qT ?_ ?_;refine aD (b:=true) (.inr rfl) kq ?_
 rotate_left
 iterate 16 kernel_rfl
 refine qt (x:=(((a.length:Nat):Int) != ((b.length:Nat):Int))) (bne_iff_ne.2 hb1) ?_ ?_;apply zV 1;refine qT ?_ ?_;apply aR;refine aD (b:=false) (.inr rfl) kq ?_
 rotate_left
 iterate 13 kernel_rfl
 all_goals
  first|exact zh aq|exact v7 oq (fun i hi=>ha i oq)|exact DY (i:=k) oq oq aq
theorem fF (a b:List (List UInt8)) (hn:a.length<1000000000):ae cx 64 [.imm (a.map aa.str),.imm (b.map aa.str)] (.bool (a==b)):=by
 refine fI 26 0 [(ResultVar.tmp 4)] Tryz.func64 kq ?_;refine zZ (fun _=>[(0,.imm (a.map aa.str)),(1,.imm (b.map aa.str))]) (fun _=>[]) ?_ ?_;apply zW 1 id id;apply ai;apply zV 1;refine qy (aj (l:=a) (enc:=aa.str) kq a6) ?_ ?_ ?_;apply qr 1;refine qy (aj (l:=b) (enc:=aa.str) kq a6) ?_ ?_ ?_;apply zR 1 (mU [(10,.bool (((a.length:Nat):Int) != ((b.length:Nat):Int)))]) id;by_cases hb1:((a.length:Nat):Int)=((b.length:Nat):Int);refine qf (x:=(((a.length:Nat):Int) != ((b.length:Nat):Int))) (bne_eq_false_iff_eq.2 hb1) ?_ ?_;apply qK;apply zZ (mT [] [10]) id;apply ai;apply zV 1;refine qy (aj (l:=a) (enc:=aa.str) kq a6) ?_ ?_ ?_;apply zR 1 (mU [(12,nI a.length),(13,.int .i64 0)]) id;apply qB 0;refine aT (σ:=Nat) (fun k=>[(0,.imm (a.map aa.str)),(1,.imm (b.map aa.str)),(12,.int .i64 ((a.length:Nat):Int)),(13,.int .i64 ((k:Nat):Int))]) (fun k=>[]) (fun k=>k<=a.length/\∀ i,i<k->a.getD i []=b.getD i []) (fun k=>a.length - k) 0 kq zq (fg kq kq aA zq) ?_;rintro k ⟨hk,ha⟩;apply zW 1 (mU [(14,.bool (decide (((k:Nat):Int)<((a.length:Nat):Int))))]) id;apply ai;by_cases hb2:((k:Nat):Int)<((a.length:Nat):Int);apply qt (decide_eq_true hb2);apply qK;apply zZ (mT [] [14]) id;apply ai;apply qB 1;apply zW 2 (mU [(5,nI k)]) id;apply ai;refine zD cxM kq ax ?_;apply qu 2;refine qd (au (k:=.i64) (l:=a) (enc:=aa.str) (i:=((k:Nat):Int)) [] kq a6 ty9 (fun _=>rfl) oq oq) ?_ ?_ ?_ ?_;apply qu 3;refine qd (au (k:=.i64) (l:=b) (enc:=aa.str) (i:=((k:Nat):Int)) [] kq a6 ty9 (fun _=>rfl) oq oq) ?_ ?_ ?_ ?_;apply qu 2;refine bY kq ⟨kq,?_⟩;refine zE (mT [(24,.bool (Fa a k b))] [5]) id ?_ ?_;by_cases hb3:(a.getD k [])=(b.getD k []);refine qf (x:=(Fa a k b)) (congrArg not (beq_iff_eq.2 hb3)) ?_ ?_;refine qk ?_ ?_;refine ag ?_;apply ab;apply zZ (mT [] [24]) id;apply qo;refine qy (az (a:=((k:Nat):Int)) (b:=1) kq oq oq) ?_ ?_ ?_;apply qr 1;apply qe;refine ab ⟨k+1,?_,?_,(fg kq kq aA zq)⟩
 . omega
 . refine ⟨by omega,fun i hi=>?_⟩;rcases Nat.lt_succ_iff_lt_or_eq.1 hi with h|h
   . exact ha i h
   . subst h;assumption
 iterate 8 kernel_rfl
 refine qt (x:=(Fa a k b)) (congrArg not (beq_eq_false_iff_ne.2 hb3)) ?_ ?_;apply zV 1;refine qT ?_ ?_;apply iR;apply aR;apply aR;apply iR;apply aR;refine aD (b:=false) (.inr rfl) kq ?_
 rotate_left
 iterate 21 kernel_rfl
 apply qf (decide_eq_false hb2);refine aK 0 kq kq ?_;apply ac;apply ac;refine ao ?_;apply ab;refine zZ (fun _=>[]) (fun _=>[]) ?_ ?_;apply zV 1;refine qT ?_ ?_;refine aD (b:=true) (.inr rfl) kq ?_
 rotate_left
 iterate 16 kernel_rfl
 refine qt (x:=(((a.length:Nat):Int) != ((b.length:Nat):Int))) (bne_iff_ne.2 hb1) ?_ ?_;apply zV 1;refine qT ?_ ?_;apply aR;refine aD (b:=false) (.inr rfl) kq ?_
 rotate_left
 iterate 13 kernel_rfl
 all_goals
  first|exact zh aq|exact v7 oq (fun i hi=>ha i oq)|exact DY (i:=k) oq oq aq
theorem np {p:Prop} (h:p:=by simp [Ty.v]):p:=h
theorem Bt (a b:List Ty) (f:Nat) (p:Ty->Ty->Bool) (hc:∀ i,i<a.length->i<b.length->ae cx f [(a.getD i Ty.zero).v,(b.getD i Ty.zero).v] (.bool (p (a.getD i Ty.zero) (b.getD i Ty.zero)))) (hn:a.length<1000000000):ae cx 143 [.imm (a.map Ty.enc),.imm (b.map Ty.enc),.fn (.func f) [] []] (.bool (br p a b)):=by
 refine fI 32 0 [(ResultVar.tmp 6)] Tryz.func143 kq ?_;refine zZ (fun _=>[(0,.imm (a.map Ty.enc)),(1,.imm (b.map Ty.enc)),(2,.fn (.func f) [] [])]) (fun _=>[]) ?_ ?_;apply zW 1 id id;apply ai;apply zV 1;refine qy (aj (l:=a) (enc:=Ty.enc) kq dU) ?_ ?_ ?_;apply qr 1;refine qy (aj (l:=b) (enc:=Ty.enc) kq dU) ?_ ?_ ?_;apply zR 1 (mU [(14,.bool (((a.length:Nat):Int) != ((b.length:Nat):Int)))]) id;by_cases hb1:((a.length:Nat):Int)=((b.length:Nat):Int);refine qf (x:=(((a.length:Nat):Int) != ((b.length:Nat):Int))) (bne_eq_false_iff_eq.2 hb1) ?_ ?_;apply qK;apply zZ (mT [] [14]) id;apply ai;apply zV 1;refine qy (aj (l:=a) (enc:=Ty.enc) kq dU) ?_ ?_ ?_;apply zR 1 (mT [(15,.imm (a.map Ty.enc)),(16,nI a.length),(17,.int .i64 0)] [0]) id;apply qB 0;refine aT (σ:=Nat) (fun k=>[(1,.imm (b.map Ty.enc)),(2,.fn (.func f) [] []),(15,.imm (a.map Ty.enc)),(16,.int .i64 ((a.length:Nat):Int)),(17,.int .i64 ((k:Nat):Int))]) (fun k=>[]) (fun k=>k<=a.length/\∀ i,i<k->p (a.getD i Ty.zero) (b.getD i Ty.zero)=true) (fun k=>a.length - k) 0 kq zq (fg kq kq aA zq) ?_;rintro k ⟨hk,ha⟩;apply zW 1 (mU [(18,.bool (decide (((k:Nat):Int)<((a.length:Nat):Int))))]) id;apply ai;by_cases hb2:((k:Nat):Int)<((a.length:Nat):Int);apply qt (decide_eq_true hb2);apply qK;apply zZ (mT [] [18]) id;apply ai;apply qB 1;apply zV 1;refine qy ((au (k:=.i64) (l:=a) (enc:=Ty.enc) (i:=((k:Nat):Int)) Ty.zero kq dU il d6 oq oq).trans (congrArg (fun cs=>some (aa.pimm cs 0,_)) (dz (a.getD k Ty.zero)))) ?_ ?_ ?_;apply zR 4 (mU [(7,nI k),(8,.ptr 0 0)]) (mH [] [(a.getD k Ty.zero).bx]);apply zV 2;refine qy ((au (k:=.i64) (l:=b) (enc:=Ty.enc) (i:=((k:Nat):Int)) Ty.zero kq dU il d6 oq oq).trans (congrArg (fun cs=>some (aa.pimm cs 0,_)) (dz (b.getD k Ty.zero)))) ?_ ?_ ?_;apply zR 3 (mT [(9,.ptr 1 0)] [7]) (mH [] [(b.getD k Ty.zero).bx]);apply zV 3;refine qP (hc k oq oq) np np np kq ?_;apply zR 1 (mT [(30,.bool (!(p (a.getD k Ty.zero) (b.getD k Ty.zero))))] [8,9]) id;by_cases hb3:(p (a.getD k Ty.zero) (b.getD k Ty.zero))=true;refine qf (x:=(!(p (a.getD k Ty.zero) (b.getD k Ty.zero)))) (congrArg not (hb3)) ?_ ?_;refine qk ?_ ?_;refine ag ?_;apply ab;apply zZ (mT [] [30]) id;apply qo;refine qy (az (a:=((k:Nat):Int)) (b:=1) kq oq oq) ?_ ?_ ?_;apply qr 1;apply qe;refine ab ⟨k+1,?_,?_,(fg kq kq aA zq)⟩
 . omega
 . refine ⟨by omega,fun i hi=>?_⟩;rcases Nat.lt_succ_iff_lt_or_eq.1 hi with h|h
   . exact ha i h
   . subst h;assumption
 iterate 8 kernel_rfl
 refine qt (x:=(!(p (a.getD k Ty.zero) (b.getD k Ty.zero)))) (congrArg not (Bool.eq_false_iff.2 hb3)) ?_ ?_;apply zV 1;refine qT ?_ ?_;apply iR;apply aR;apply aR;apply iR;apply aR;refine aD (b:=false) (.inr rfl) kq ?_
 rotate_left
 iterate 19 kernel_rfl
 apply qf (decide_eq_false hb2);refine aK 0 kq kq ?_;apply ac;apply ac;refine ao ?_;apply ab;refine zZ (fun _=>[]) (fun _=>[]) ?_ ?_;apply zV 1;refine qT ?_ ?_;refine aD (b:=true) (.inr rfl) kq ?_
 rotate_left
 iterate 16 kernel_rfl
 refine qt (x:=(((a.length:Nat):Int) != ((b.length:Nat):Int))) (bne_iff_ne.2 hb1) ?_ ?_;apply zV 1;refine qT ?_ ?_;apply aR;refine aD (b:=false) (.inr rfl) kq ?_
 rotate_left
 iterate 13 kernel_rfl
 all_goals
  first|exact (cT p a b oq).symm|exact (cq p Ty.zero Ty.zero a b oq (fun i hi=>ha i oq)).symm|exact (ef p Ty.zero Ty.zero a b k oq oq (Bool.eq_false_iff.2 aq)).symm
theorem jI (a b:Ty) (hs:a.sz<100000000):ae cx 58 [Ty.v a,Ty.v b] (.bool (a.beq b)):=by
 induction hN:a.sz using Nat.strongRecOn generalizing a b with|_ N ih =>
 have hc:∀ i,i<a.kids.length->i<b.kids.length->ae cx 58 [(a.kids.getD i Ty.zero).v,(b.kids.getD i Ty.zero).v] (.bool ((a.kids.getD i Ty.zero).beq (b.kids.getD i Ty.zero))):=fun i h1 _=>ih _ (by rw [<- hN];exact fV a i h1) _ _ (Nat.lt_trans (fV a i h1) hs) rfl
 have hz1:=j3 a;have hz2:=jD a;refine fI 38 0 [(ResultVar.tmp 4)] Tryz.func58 kq ?_;refine zZ (fun _=>[(0,Ty.v a),(1,Ty.v b)]) (fun _=>[]) ?_ ?_;apply zW 3 (mT [(2,.ptr 0 0),(3,.ptr 1 0)] [0,1]) (mH [] [a.bx,b.bx]);apply zV 6;by_cases hb1:(a.kind)=(b.kind);refine zm [9,10] (beq_iff_eq.2 hb1) ?_ ?_;apply qr 7;by_cases hb2:a.name=b.name;refine zm [15,16,17] (beq_iff_eq.2 hb2) ?_ ?_;apply qr 7;by_cases hb3:(a.n)=(b.n);refine zm [22,23,24] (beq_iff_eq.2 hb3) ?_ ?_;apply qr 4;refine qP (fF a.names b.names oq) np np np kq ?_;apply qr 2;by_cases hb4:(a.names==b.names)=true;refine zm [29,30,31] (hb4) ?_ ?_;apply qr 4;refine qP (Bt a.kids b.kids 58 Ty.beq (hc) oq) np np np kq ?_;refine qX 2 ?_ ?_;refine aD (b:=(br Ty.beq a.kids b.kids)) (.inr rfl) kq ?_
 . simp [beq_eq, *]
 iterate 3 kernel_rfl
 refine zm [29,30,31] (Bool.eq_false_iff.2 hb4) ?_ ?_;refine qX 7 ?_ ?_;refine aD (b:=false) (.inr rfl) kq ?_
 . simp [beq_eq, *]
 iterate 5 kernel_rfl
 refine zm [22,23,24] (beq_eq_false_iff_ne.2 hb3) ?_ ?_;refine qX 14 ?_ ?_;refine aD (b:=false) (.inr rfl) kq ?_
 . simp [beq_eq, *]
 iterate 4 kernel_rfl
 refine zm [15,16,17] (beq_eq_false_iff_ne.2 hb2) ?_ ?_;refine qX 21 ?_ ?_;refine aD (b:=false) (.inr rfl) kq ?_
 . simp [beq_eq, *]
 iterate 4 kernel_rfl
 refine zm [9,10] (beq_eq_false_iff_ne.2 hb1) ?_ ?_;refine qX 28 ?_ ?_;refine aD (b:=false) (.inr rfl) kq ?_
 . simp [beq_eq, *]
 iterate 5 kernel_rfl
theorem LC {a b:Ty} {v:Bool} (h:v=((a.kind==b.kind) && ((a.name==b.name) && ((a.n==b.n) && ((a.names==b.names) && br Ty.beq a.kids b.kids))))):v=a.beq b:=by rw [beq_eq];exact h
abbrev NI :List (Nat×aa):=[(2,.ptr 0 0),(3,.ptr 1 0),(44,.bool true)]
abbrev RK (a:Ty)(k:Nat)(b:Ty):=!((a.kids.getD k Ty.zero).beq (b.kids.getD k Ty.zero))
theorem gN (a b:Ty) (hs:a.sz<100000000):ae cx 95 [Ty.v a,Ty.v b] (.bool (a.beq b)):=by
 induction hN:a.sz using Nat.strongRecOn generalizing a b with|_ N ih =>
 have hc:∀ i,i<a.kids.length->i<b.kids.length->ae cx 95 [(a.kids.getD i Ty.zero).v,(b.kids.getD i Ty.zero).v] (.bool ((a.kids.getD i Ty.zero).beq (b.kids.getD i Ty.zero))):=fun i h1 _=>ih _ (by rw [<- hN];exact fV a i h1) _ _ (Nat.lt_trans (fV a i h1) hs) rfl
 have hz1:=j3 a;have hz2:=jD a;refine fI 65 0 [(ResultVar.tmp 4)] Tryz.func95 kq ?_;refine zZ (fun _=>[(0,Ty.v a),(1,Ty.v b)]) (fun _=>[]) ?_ ?_;apply zW 3 (mT [(2,.ptr 0 0),(3,.ptr 1 0)] [0,1]) (mH [] [a.bx,b.bx]);apply zV 4;refine qP (lO a.names b.names oq) np np np kq ?_;apply zR 1 (mU [(5,.bool (a.names==b.names))]) id;apply ai;apply zV 3;by_cases hb1:(a.names==b.names)=true;refine zm [14,15] (x:=(!(a.names==b.names))) (congrArg not (hb1)) ?_ ?_;apply qr 7;by_cases hb2:(a.kind)=(b.kind);refine zm [20,21,22] (x:=((a.kind) != (b.kind))) (bne_eq_false_iff_eq.2 hb2) ?_ ?_;apply qr 7;by_cases hb3:a.name=b.name;refine zm [27,28,29] (x:=(!(a.name==b.name))) (congrArg not (beq_iff_eq.2 hb3)) ?_ ?_;apply qr 7;by_cases hb4:(a.n)=(b.n);refine zm [34,35,36] (x:=((a.n) != (b.n))) (bne_eq_false_iff_eq.2 hb4) ?_ ?_;apply qr 2;refine qy (aj (l:=a.kids) (enc:=Ty.enc) kq dU) ?_ ?_ ?_;apply qr 2;refine qy (aj (l:=b.kids) (enc:=Ty.enc) kq dU) ?_ ?_ ?_;apply zR 2 (mT [(44,.bool (((a.kids.length:Nat):Int) != ((b.kids.length:Nat):Int)))] [5]) id;by_cases hb5:((a.kids.length:Nat):Int)=((b.kids.length:Nat):Int);refine qf (x:=(((a.kids.length:Nat):Int) != ((b.kids.length:Nat):Int))) (bne_eq_false_iff_eq.2 hb5) ?_ ?_;apply qK;apply zZ (mT [] [44]) id;apply ai;apply zW 1 (mU [(6,.int .i64 0)]) id;apply qB 0;refine aT (σ:=Nat) (fun k=>[(2,.ptr 0 0),(3,.ptr 1 0),(6,.int .i64 ((k:Nat):Int))]) (fun k=>[a.bx,b.bx]) (fun k=>k<=a.kids.length/\∀ i,i<k->(a.kids.getD i Ty.zero).beq (b.kids.getD i Ty.zero)=true) (fun k=>a.kids.length - k) 0 kq zq (fg kq kq aA (by simp [am.belO])) ?_;rintro k ⟨hk,ha⟩;apply ai;apply zV 3;refine qy (aj (l:=a.kids) (enc:=Ty.enc) kq dU) ?_ ?_ ?_;apply zR 1 (mU [(49,.bool (decide (((k:Nat):Int)<((a.kids.length:Nat):Int))))]) id;by_cases hb6:((k:Nat):Int)<((a.kids.length:Nat):Int);apply qt (decide_eq_true hb6);apply qK;apply zZ (mT [] [49]) id;apply ai;apply qB 1;apply ai;refine zD cxM kq ax ?_;apply qu 3;refine qd ((au (k:=.i64) (l:=a.kids) (enc:=Ty.enc) (i:=((k:Nat):Int)) Ty.zero kq dU il d6 oq oq).trans (congrArg (fun cs=>some (aa.pimm cs 0,_)) (dz (a.kids.getD k Ty.zero)))) ?_ ?_ ?_ ?_;apply qu 4;refine qd ((au (k:=.i64) (l:=b.kids) (enc:=Ty.enc) (i:=((k:Nat):Int)) Ty.zero kq dU il d6 oq oq).trans (congrArg (fun cs=>some (aa.pimm cs 0,_)) (dz (b.kids.getD k Ty.zero)))) ?_ ?_ ?_ ?_;apply qu 1;refine qQ (hc k oq oq) np np np kq ?_;apply qu 1;refine bY kq ⟨kq,?_⟩;refine zE (mU [(7,.bool ((a.kids.getD k Ty.zero).beq (b.kids.getD k Ty.zero)))]) id ?_ ?_;apply zW 2 (mT [(64,.bool (RK a k b))] [7]) id;by_cases hb7:((a.kids.getD k Ty.zero).beq (b.kids.getD k Ty.zero))=true;refine qf (x:=(RK a k b)) (congrArg not (hb7)) ?_ ?_;refine qk ?_ ?_;refine ag ?_;apply ab;apply zZ (mT [] [64]) id;apply qo;apply qr 1;refine qy (az (a:=((k:Nat):Int)) (b:=1) kq oq oq) ?_ ?_ ?_;apply qr 1;apply qe;refine ab ⟨k+1,?_,?_,(fg kq kq aA (by simp [am.belO]))⟩
 . omega
 . refine ⟨by omega,fun i hi=>?_⟩;rcases Nat.lt_succ_iff_lt_or_eq.1 hi with h|h
   . exact ha i h
   . subst h;assumption
 iterate 9 kernel_rfl
 refine qt (x:=(RK a k b)) (congrArg not (Bool.eq_false_iff.2 hb7)) ?_ ?_;apply zV 1;refine qT ?_ ?_;apply iR;apply aR;apply aR;apply iR;apply aR;refine aD (b:=false) (.inr rfl) kq ?_
 rotate_left
 iterate 22 kernel_rfl
 apply qf (decide_eq_false hb6);refine aK 0 kq kq ?_;apply ac;apply ac;refine ao ?_;apply ab;refine zZ (fun _=>[]) (fun _=>[a.bx,b.bx]) ?_ ?_;apply zV 1;refine qT ?_ ?_;refine aD (b:=true) (.inr rfl) kq ?_
 rotate_left
 iterate 16 kernel_rfl
 refine qt (x:=(((a.kids.length:Nat):Int) != ((b.kids.length:Nat):Int))) (bne_iff_ne.2 hb5) ?_ ?_;apply zV 1;refine qT ?_ ?_;apply aR;refine aD (b:=false) (.inr rfl) kq ?_
 rotate_left
 iterate 11 kernel_rfl
 refine zm [34,35,36] (x:=((a.n) != (b.n))) (bne_iff_ne.2 hb4) ?_ ?_;refine zR 8 (fun _=>NI) (fun _=>[a.bx,b.bx]) ?_ ?_;refine ga kq kq ?_;apply zV 1;refine qT ?_ ?_;apply aR;refine aD (b:=false) (.inr rfl) kq ?_
 rotate_left
 iterate 6 kernel_rfl
 refine zm [27,28,29] (x:=(!(a.name==b.name))) (congrArg not (beq_eq_false_iff_ne.2 hb3)) ?_ ?_;refine zR 15 (fun _=>NI) (fun _=>[a.bx,b.bx]) ?_ ?_;refine ga kq kq ?_;apply zV 1;refine qT ?_ ?_;apply aR;refine aD (b:=false) (.inr rfl) kq ?_
 rotate_left
 iterate 6 kernel_rfl
 refine zm [20,21,22] (x:=((a.kind) != (b.kind))) (bne_iff_ne.2 hb2) ?_ ?_;refine zR 22 (fun _=>NI) (fun _=>[a.bx,b.bx]) ?_ ?_;refine ga kq kq ?_;apply zV 1;refine qT ?_ ?_;apply aR;refine aD (b:=false) (.inr rfl) kq ?_
 rotate_left
 iterate 6 kernel_rfl
 refine zm [14,15] (x:=(!(a.names==b.names))) (congrArg not (Bool.eq_false_iff.2 hb1)) ?_ ?_;refine zR 29 (fun _=>NI) (fun _=>[a.bx,b.bx]) ?_ ?_;refine ga kq kq ?_;apply zV 1;refine qT ?_ ?_;apply aR;refine aD (b:=false) (.inr rfl) kq ?_
 rotate_left
 iterate 10 kernel_rfl
 all_goals
  refine LC ?_
  first|(simp only [cT Ty.beq a.kids b.kids oq,Bool.and_false];done)|(rw [cq Ty.beq Ty.zero Ty.zero a.kids b.kids oq (fun i hi=>ha i oq)];simp_all;done)|(rw [ef Ty.beq Ty.zero Ty.zero a.kids b.kids k oq oq (Bool.eq_false_iff.2 aq)];simp;done)|(simp_all;done)
end Go.Proofs.YtcpklndelobigaaGreatDoor
namespace Go.Proofs.YtcpklndelobigaaGreatDoor
open Go.Proofs.YtcpklndelobigaaGreatDoor.Abs
inductive Ex where
 | mk (kind:Int) (name:List UInt8) (n:Int) (s:List UInt8) (names binds:List (List UInt8)) (kids:List Ex) (pos fin:Int)
def Ex.kind:Ex->Int|.mk k _ _ _ _ _ _ _ _=>k
def Ex.name:Ex->List UInt8|.mk _ x _ _ _ _ _ _ _=>x
def Ex.n:Ex->Int|.mk _ _ n _ _ _ _ _ _=>n
def Ex.s:Ex->List UInt8|.mk _ _ _ s _ _ _ _ _=>s
def Ex.names:Ex->List (List UInt8)|.mk _ _ _ _ l _ _ _ _=>l
def Ex.binds:Ex->List (List UInt8)|.mk _ _ _ _ _ l _ _ _=>l
def Ex.kids:Ex->List Ex|.mk _ _ _ _ _ _ l _ _=>l
def Ex.pos:Ex->Int|.mk _ _ _ _ _ _ _ p _=>p
def Ex.fin:Ex->Int|.mk _ _ _ _ _ _ _ _ q=>q
def Ex.zero:Ex:=.mk 0 [] 0 [] [] [] [] 0 0
mutual
def Ex.enc:Ex->aa
 | .mk k x n s l b ks p q=>.agg [.int .i64 k,.str x,.int .i64 n,.str s,.imm (l.map .str),.imm (b.map .str),.imm (Ex.encL ks),.int .i64 p,.int .i64 q]
def Ex.encL:List Ex->List aa
 | []=>[]
 | t::l=>t.enc::Ex.encL l
end
theorem Ex.encL_map:∀ l,Ex.encL l=l.map Ex.enc
 | []=>rfl
 | t::l=>by rw [Ex.encL,Ex.encL_map l];rfl
def Ex.v (t:Ex):aa:=.agg [.int .i64 t.kind,.str t.name,.int .i64 t.n,.str t.s,.imm (t.names.map .str),.imm (t.binds.map .str),.imm (t.kids.map Ex.enc),.int .i64 t.pos,.int .i64 t.fin]
theorem Ex.enc_v (t:Ex):t.enc=t.v:=by cases t;simp only [Ex.enc,Ex.encL_map];rfl
theorem tB (t:Ex):t.enc.cells=[.int .i64 t.kind,.str t.name,.int .i64 t.n,.str t.s,.imm (t.names.map .str),.imm (t.binds.map .str),.imm (t.kids.map Ex.enc),.int .i64 t.pos,.int .i64 t.fin]:=by rw [Ex.enc_v];rfl
theorem D3 (t:Ex):t.enc.cells.length=9:=by rw [tB];rfl
mutual
theorem Ex.frz_enc (h:af):∀ t:Ex,t.enc.frz h=t.enc
 | .mk k x n s l b ks p q=>by simp only [Ex.enc,aa.frz,aN,pU,Ex.frz_encL h ks]
theorem Ex.frz_encL (h:af):∀ l:List Ex,aN h (Ex.encL l)=Ex.encL l
 | []=>rfl
 | t::l=>by simp only [Ex.encL,aN,Ex.frz_enc h t,Ex.frz_encL h l]
end
mutual
theorem Ex.bel_enc (k:Nat):∀ t:Ex,t.enc.bel k=true
 | .mk _ x n s l b ks p q=>by simp only [Ex.enc,aa.bel,aC,mI,Ex.bel_encL k ks,Bool.and_self]
theorem Ex.bel_encL (k:Nat):∀ l:List Ex,aC k (Ex.encL l)=true
 | []=>rfl
 | t::l=>by simp only [Ex.encL,aC,Ex.bel_enc k t,Ex.bel_encL k l,Bool.and_self]
end
mutual
theorem Ex.owns_enc:∀ t:Ex,t.enc.owns=[]
 | .mk _ x n s l b ks p q=>by simp only [Ex.enc,aa.owns,aF,sK,Ex.owns_encL ks,List.append_nil]
theorem Ex.owns_encL:∀ l:List Ex,aF (Ex.encL l)=[]
 | []=>rfl
 | t::l=>by simp only [Ex.encL,aF,Ex.owns_enc t,Ex.owns_encL l,List.append_nil]
end
@[simp] theorem Ve (h:af) (l:List Ex):aN h (l.map Ex.enc)=l.map Ex.enc:=bf h (Ex.frz_enc h) l
@[simp] theorem Vn (k:Nat) (l:List Ex):aC k (l.map Ex.enc)=true:=cG k (Ex.bel_enc k) l
@[simp] theorem Sd (l:List Ex):aF (l.map Ex.enc)=[]:=cj Ex.owns_enc l
@[simp] theorem VN (h:af) (t:Ex):t.v.frz h=t.v:=by simp [Ex.v]
@[simp] theorem VY (k:Nat) (t:Ex):t.v.bel k=true:=by simp [Ex.v]
@[simp] theorem UY (t:Ex):t.v.owns=[]:=by simp [Ex.v]
mutual
def Ex.sz:Ex->Nat
 | .mk _ x _ s l b ks _ _=>1+x.length+s.length+szS l+szS b+Ex.szL ks
def Ex.szL:List Ex->Nat
 | []=>0
 | t::l=>t.sz+1+Ex.szL l
end
theorem A0:∀ l,l.length<=Ex.szL l
 | []=>Nat.le_refl _
 | x::l=>by have:=A0 l;simp [Ex.szL];omega
theorem vU:∀ (l:List Ex) (i:Nat),i<l.length->(l.getD i Ex.zero).sz<Ex.szL l
 | [],i,h=>by simp at h
 | x::l,0,_=>by simp [Ex.szL];omega
 | x::l,i+1,h=>by have:=vU l i (by simpa using h);simp [Ex.szL] at *;omega
theorem w8 (t:Ex):t.sz=1+t.name.length+t.s.length+szS t.names+szS t.binds+Ex.szL t.kids:=by cases t;simp [Ex.sz,Ex.name,Ex.s,Ex.names,Ex.binds,Ex.kids]
theorem Fw (t:Ex):t.names.length<t.sz:=by have:=nN t.names;have e:=w8 t;omega
theorem Gs (t:Ex):t.binds.length<t.sz:=by have:=nN t.binds;have e:=w8 t;omega
theorem HN (t:Ex):t.kids.length<t.sz:=by have:=A0 t.kids;have e:=w8 t;omega
theorem wS (t:Ex) (i:Nat) (h:i<t.kids.length):(t.kids.getD i Ex.zero).sz<t.sz:=by have:=vU t.kids i h;have e:=w8 t;omega
mutual
def Ex.beq:Ex->Ex->Bool
 | .mk k x n s l b ks _ _,.mk k' x' n' s' l' b' ks' _ _=>(k==k') && ((x==x') && ((n==n') && ((s==s') && ((l==l') && ((b==b') && Ex.beqL ks ks')))))
def Ex.beqL:List Ex->List Ex->Bool
 | [],[]=>true
 | x::xs,y::ys=>x.beq y && Ex.beqL xs ys
 | _,_=>false
end
theorem wj:∀ a b,Ex.beqL a b=br Ex.beq a b
 | [],[]=>by rw [Ex.beqL,br]
 | [],_::_=>by simp [Ex.beqL,br]
 | _::_,[]=>by simp [Ex.beqL,br]
 | x::a,y::b=>by rw [Ex.beqL,br,wj a b]
theorem jz (a b:Ex):a.beq b=((a.kind==b.kind) && ((a.name==b.name) && ((a.n==b.n) && ((a.s==b.s) && ((a.names==b.names) && ((a.binds==b.binds) && br Ex.beq a.kids b.kids)))))):=by
 cases a;cases b;simp only [Ex.beq,wj];rfl
end Go.Proofs.YtcpklndelobigaaGreatDoor
namespace Go.Proofs.YtcpklndelobigaaGreatDoor
open Go.Proofs.YtcpklndelobigaaGreatDoor.Abs
set_option maxRecDepth 20000
set_option maxHeartbeats 4000000
abbrev pY (a:List Ex)(k:Nat):=(a.getD k Ex.zero)
abbrev po (b:List Ex)(k:Nat):=(b.getD k Ex.zero)
theorem rF {p:Prop} (h:p:=by simp [Ty.v,Ex.v]):p:=h
theorem yH (a b:List Ex) (f:Nat) (p:Ex->Ex->Bool) (hc:∀ i,i<a.length->i<b.length->ae cx f [(a.getD i Ex.zero).v,(b.getD i Ex.zero).v] (.bool (p (a.getD i Ex.zero) (b.getD i Ex.zero)))) (hn:a.length<1000000000):ae cx 144 [.imm (a.map Ex.enc),.imm (b.map Ex.enc),.fn (.func f) [] []] (.bool (br p a b)):=by
 refine fI 32 0 [(ResultVar.tmp 6)] Tryz.func144 kq ?_;refine zZ (fun _=>[(0,.imm (a.map Ex.enc)),(1,.imm (b.map Ex.enc)),(2,.fn (.func f) [] [])]) (fun _=>[]) ?_ ?_;apply zW 1 id id;apply ai;apply zV 1;refine qy (aj (l:=a) (enc:=Ex.enc) kq It) ?_ ?_ ?_;apply qr 1;refine qy (aj (l:=b) (enc:=Ex.enc) kq It) ?_ ?_ ?_;apply zR 1 (mU [(14,.bool (((a.length:Nat):Int) != ((b.length:Nat):Int)))]) id;by_cases hb1:((a.length:Nat):Int)=((b.length:Nat):Int);refine qf (x:=(((a.length:Nat):Int) != ((b.length:Nat):Int))) (bne_eq_false_iff_eq.2 hb1) ?_ ?_;apply qK;apply zZ (mT [] [14]) id;apply ai;apply zV 1;refine qy (aj (l:=a) (enc:=Ex.enc) kq It) ?_ ?_ ?_;apply zR 1 (mT [(15,.imm (a.map Ex.enc)),(16,nI a.length),(17,.int .i64 0)] [0]) id;apply qB 0;refine aT (σ:=Nat) (fun k=>[(1,.imm (b.map Ex.enc)),(2,.fn (.func f) [] []),(15,.imm (a.map Ex.enc)),(16,.int .i64 ((a.length:Nat):Int)),(17,nI k)]) (fun k=>[]) (fun k=>k<=a.length/\∀ i,i<k->p (a.getD i Ex.zero) (b.getD i Ex.zero)=true) (fun k=>a.length - k) 0 kq zq (fg kq kq aA zq) ?_;rintro k ⟨hk,ha⟩;apply zW 1 (mU [(18,.bool (decide (((k:Nat):Int)<((a.length:Nat):Int))))]) id;apply ai;by_cases hb2:((k:Nat):Int)<((a.length:Nat):Int);apply qt (decide_eq_true hb2);apply qK;apply zZ (mT [] [18]) id;apply ai;apply qB 1;apply zV 1;refine qy ((au (k:=.i64) (l:=a) (enc:=Ex.enc) (i:=((k:Nat):Int)) Ex.zero kq It VD D3 oq oq).trans (congrArg (fun cs=>some (aa.pimm cs 0,_)) (tB (pY a k)))) ?_ ?_ ?_;apply zR 4 (mU [(7,nI k),(8,.ptr 0 0)]) (mH [] [.box [.int .i64 ((pY a k).kind),.str (pY a k).name,.int .i64 ((pY a k).n),.str (pY a k).s,.imm ((pY a k).names.map aa.str),.imm ((pY a k).binds.map aa.str),.imm ((pY a k).kids.map Ex.enc),.int .i64 ((pY a k).pos),.int .i64 ((pY a k).fin)]]);apply zV 2;refine qy ((au (k:=.i64) (l:=b) (enc:=Ex.enc) (i:=((k:Nat):Int)) Ex.zero kq It VD D3 oq oq).trans (congrArg (fun cs=>some (aa.pimm cs 0,_)) (tB (po b k)))) ?_ ?_ ?_;apply zR 3 (mT [(9,.ptr 1 0)] [7]) (mH [] [.box [.int .i64 ((po b k).kind),.str (po b k).name,.int .i64 ((po b k).n),.str (po b k).s,.imm ((po b k).names.map aa.str),.imm ((po b k).binds.map aa.str),.imm ((po b k).kids.map Ex.enc),.int .i64 ((po b k).pos),.int .i64 ((po b k).fin)]]);apply zV 3;refine qP (hc k oq oq) rF rF rF kq ?_;apply zR 1 (mT [(30,.bool (!(p (pY a k) (po b k))))] [8,9]) id;by_cases hb3:(p (a.getD k Ex.zero) (b.getD k Ex.zero))=true;refine qf (x:=(!(p (pY a k) (po b k)))) (congrArg not (hb3)) ?_ ?_;refine qk ?_ ?_;refine ag ?_;apply ab;apply zZ (mT [] [30]) id;apply qo;refine qy (az (a:=((k:Nat):Int)) (b:=1) kq oq oq) ?_ ?_ ?_;apply qr 1;apply qe;refine ab ⟨k+1,?_,?_,(fg kq kq aA zq)⟩
 . omega
 . refine ⟨by omega,fun i hi=>?_⟩;rcases Nat.lt_succ_iff_lt_or_eq.1 hi with h|h
   . exact ha i h
   . subst h;assumption
 iterate 8 kernel_rfl
 refine qt (x:=(!(p (pY a k) (po b k)))) (congrArg not (Bool.eq_false_iff.2 hb3)) ?_ ?_;apply zV 1;refine qT ?_ ?_;apply iR;apply aR;apply aR;apply iR;apply aR;refine aD (b:=false) (.inr rfl) kq ?_
 rotate_left
 iterate 19 kernel_rfl
 apply qf (decide_eq_false hb2);refine aK 0 kq kq ?_;apply ac;apply ac;refine ao ?_;apply ab;refine zZ (fun _=>[]) (fun _=>[]) ?_ ?_;apply zV 1;refine qT ?_ ?_;refine aD (b:=true) (.inr rfl) kq ?_
 rotate_left
 iterate 16 kernel_rfl
 refine qt (x:=(((a.length:Nat):Int) != ((b.length:Nat):Int))) (bne_iff_ne.2 hb1) ?_ ?_;apply zV 1;refine qT ?_ ?_;apply aR;refine aD (b:=false) (.inr rfl) kq ?_
 rotate_left
 iterate 13 kernel_rfl
 all_goals
  first|exact (cT p a b oq).symm|exact (cq p Ex.zero Ex.zero a b oq (fun i hi=>ha i oq)).symm|exact (ef p Ex.zero Ex.zero a b k oq oq (Bool.eq_false_iff.2 aq)).symm
theorem AJ (a b:Ex) (hs:a.sz<100000000):ae cx 66 [Ex.v a,Ex.v b] (.bool (a.beq b)):=by
 induction hN:a.sz using Nat.strongRecOn generalizing a b with|_ N ih =>
 have hc:∀ i,i<a.kids.length->i<b.kids.length->ae cx 66 [(a.kids.getD i Ex.zero).v,(b.kids.getD i Ex.zero).v] (.bool ((a.kids.getD i Ex.zero).beq (b.kids.getD i Ex.zero))):=fun i h1 _=>ih _ (by rw [<- hN];exact wS a i h1) _ _ (Nat.lt_trans (wS a i h1) hs) rfl
 have hz1:=Fw a;have hz2:=HN a;have hz3:=Gs a;refine fI 52 0 [(ResultVar.tmp 4)] Tryz.func66 kq ?_;refine zZ (fun _=>[(0,Ex.v a),(1,Ex.v b)]) (fun _=>[]) ?_ ?_;apply zW 3 (mT [(2,.ptr 0 0),(3,.ptr 1 0)] [0,1]) (mH [] [.box [.int .i64 (a.kind),.str a.name,.int .i64 (a.n),.str a.s,.imm (a.names.map aa.str),.imm (a.binds.map aa.str),.imm (a.kids.map Ex.enc),.int .i64 (a.pos),.int .i64 (a.fin)],.box [.int .i64 (b.kind),.str b.name,.int .i64 (b.n),.str b.s,.imm (b.names.map aa.str),.imm (b.binds.map aa.str),.imm (b.kids.map Ex.enc),.int .i64 (b.pos),.int .i64 (b.fin)]]);apply zV 6;by_cases hb1:(a.kind)=(b.kind);refine zm [9,10] (beq_iff_eq.2 hb1) ?_ ?_;apply qr 7;by_cases hb2:a.name=b.name;refine zm [15,16,17] (beq_iff_eq.2 hb2) ?_ ?_;apply qr 7;by_cases hb3:(a.n)=(b.n);refine zm [22,23,24] (beq_iff_eq.2 hb3) ?_ ?_;apply qr 7;by_cases hb4:a.s=b.s;refine zm [29,30,31] (beq_iff_eq.2 hb4) ?_ ?_;apply qr 4;refine qP (fF a.names b.names oq) rF rF rF kq ?_;apply qr 2;by_cases hb5:(a.names==b.names)=true;refine zm [36,37,38] (hb5) ?_ ?_;apply qr 4;refine qP (fF a.binds b.binds oq) rF rF rF kq ?_;apply qr 2;by_cases hb6:(a.binds==b.binds)=true;refine zm [43,44,45] (hb6) ?_ ?_;apply qr 4;refine qP (yH a.kids b.kids 66 Ex.beq (hc) oq) rF rF rF kq ?_;refine qX 2 ?_ ?_;refine aD (b:=(br Ex.beq a.kids b.kids)) (.inr rfl) kq ?_
 . simp [jz, *]
 iterate 3 kernel_rfl
 refine zm [43,44,45] (Bool.eq_false_iff.2 hb6) ?_ ?_;refine qX 7 ?_ ?_;refine aD (b:=false) (.inr rfl) kq ?_
 . simp [jz, *]
 iterate 5 kernel_rfl
 refine zm [36,37,38] (Bool.eq_false_iff.2 hb5) ?_ ?_;refine qX 14 ?_ ?_;refine aD (b:=false) (.inr rfl) kq ?_
 . simp [jz, *]
 iterate 5 kernel_rfl
 refine zm [29,30,31] (beq_eq_false_iff_ne.2 hb4) ?_ ?_;refine qX 21 ?_ ?_;refine aD (b:=false) (.inr rfl) kq ?_
 . simp [jz, *]
 iterate 4 kernel_rfl
 refine zm [22,23,24] (beq_eq_false_iff_ne.2 hb3) ?_ ?_;refine qX 28 ?_ ?_;refine aD (b:=false) (.inr rfl) kq ?_
 . simp [jz, *]
 iterate 4 kernel_rfl
 refine zm [15,16,17] (beq_eq_false_iff_ne.2 hb2) ?_ ?_;refine qX 35 ?_ ?_;refine aD (b:=false) (.inr rfl) kq ?_
 . simp [jz, *]
 iterate 4 kernel_rfl
 refine zm [9,10] (beq_eq_false_iff_ne.2 hb1) ?_ ?_;refine qX 42 ?_ ?_;refine aD (b:=false) (.inr rfl) kq ?_
 . simp [jz, *]
 iterate 5 kernel_rfl
end Go.Proofs.YtcpklndelobigaaGreatDoor
namespace Go.Proofs.YtcpklndelobigaaGreatDoor
open Go.Proofs.YtcpklndelobigaaGreatDoor.Abs
structure Ct where
 name:List UInt8
 has:Bool
 arg:Ty
structure Co where
 name:List UInt8
 type:Ty
structure Rf where
 col:List UInt8
 tab:List UInt8
structure Sm where
 name:List UInt8
 ctors:List Ct
structure Tb where
 name:List UInt8
 cols:List Co
 key:List (List UInt8)
 refs:List Rf
 chk:Ex
structure Sc where
 sums:List Sm
 tabs:List Tb
def Ct.zero:Ct:=⟨[],false,Ty.zero⟩
def Co.zero:Co:=⟨[],Ty.zero⟩
def Rf.zero:Rf:=⟨[],[]⟩
def Sm.zero:Sm:=⟨[],[]⟩
def Tb.zero:Tb:=⟨[],[],[],[],Ex.zero⟩
abbrev Ty.cs (t:Ty):List aa:=[.int .i64 t.kind,.str t.name,.int .i64 t.n,.imm (t.names.map .str),.imm (t.kids.map Ty.enc)]
def Ct.v (c:Ct):aa:=.agg [.str c.name,.bool c.has,.int .i64 c.arg.kind,.str c.arg.name,.int .i64 c.arg.n,.imm (c.arg.names.map .str),.imm (c.arg.kids.map Ty.enc)]
def Co.v (c:Co):aa:=.agg [.str c.name,.int .i64 c.type.kind,.str c.type.name,.int .i64 c.type.n,.imm (c.type.names.map .str),.imm (c.type.kids.map Ty.enc)]
def Rf.v (r:Rf):aa:=.agg [.str r.col,.str r.tab]
def Sm.v (s:Sm):aa:=.agg [.str s.name,.imm (s.ctors.map Ct.v)]
def Tb.v (t:Tb):aa:=.agg [.str t.name,.imm (t.cols.map Co.v),.imm (t.key.map .str),.imm (t.refs.map Rf.v),.int .i64 t.chk.kind,.str t.chk.name,.int .i64 t.chk.n,.str t.chk.s,.imm (t.chk.names.map .str),.imm (t.chk.binds.map .str),.imm (t.chk.kids.map Ex.enc),.int .i64 t.chk.pos,.int .i64 t.chk.fin]
def Sc.v (s:Sc):aa:=.agg [.imm (s.sums.map Sm.v),.imm (s.tabs.map Tb.v)]
@[simp] theorem Ct.frz_v (h:af) (c:Ct):c.v.frz h=c.v:=by simp [Ct.v,aa.frz,aN]
@[simp] theorem Ct.bel_v (k:Nat) (c:Ct):c.v.bel k=true:=by simp [Ct.v,aa.bel,aC]
@[simp] theorem Ct.owns_v (c:Ct):c.v.owns=[]:=by simp [Ct.v,aa.owns,aF]
@[simp] theorem Ul (h:af) (l:List Ct):aN h (l.map Ct.v)=l.map Ct.v:=bf h (Ct.frz_v h) l
@[simp] theorem Bq (k:Nat) (l:List Ct):aC k (l.map Ct.v)=true:=cG k (Ct.bel_v k) l
@[simp] theorem R0 (l:List Ct):aF (l.map Ct.v)=[]:=cj Ct.owns_v l
@[simp] theorem Co.frz_v (h:af) (c:Co):c.v.frz h=c.v:=by simp [Co.v,aa.frz,aN]
@[simp] theorem Co.bel_v (k:Nat) (c:Co):c.v.bel k=true:=by simp [Co.v,aa.bel,aC]
@[simp] theorem Co.owns_v (c:Co):c.v.owns=[]:=by simp [Co.v,aa.owns,aF]
@[simp] theorem Hv (h:af) (l:List Co):aN h (l.map Co.v)=l.map Co.v:=bf h (Co.frz_v h) l
@[simp] theorem y3 (k:Nat) (l:List Co):aC k (l.map Co.v)=true:=cG k (Co.bel_v k) l
@[simp] theorem Fl (l:List Co):aF (l.map Co.v)=[]:=cj Co.owns_v l
@[simp] theorem Rf.frz_v (h:af) (c:Rf):c.v.frz h=c.v:=by simp [Rf.v,aa.frz,aN]
@[simp] theorem Rf.bel_v (k:Nat) (c:Rf):c.v.bel k=true:=by simp [Rf.v,aa.bel,aC]
@[simp] theorem Rf.owns_v (c:Rf):c.v.owns=[]:=by simp [Rf.v,aa.owns,aF]
@[simp] theorem UL (h:af) (l:List Rf):aN h (l.map Rf.v)=l.map Rf.v:=bf h (Rf.frz_v h) l
@[simp] theorem JU (k:Nat) (l:List Rf):aC k (l.map Rf.v)=true:=cG k (Rf.bel_v k) l
@[simp] theorem Se (l:List Rf):aF (l.map Rf.v)=[]:=cj Rf.owns_v l
@[simp] theorem Sm.frz_v (h:af) (c:Sm):c.v.frz h=c.v:=by simp [Sm.v,aa.frz,aN]
@[simp] theorem Sm.bel_v (k:Nat) (c:Sm):c.v.bel k=true:=by simp [Sm.v,aa.bel,aC]
@[simp] theorem Sm.owns_v (c:Sm):c.v.owns=[]:=by simp [Sm.v,aa.owns,aF]
@[simp] theorem JI (h:af) (l:List Sm):aN h (l.map Sm.v)=l.map Sm.v:=bf h (Sm.frz_v h) l
@[simp] theorem Am (k:Nat) (l:List Sm):aC k (l.map Sm.v)=true:=cG k (Sm.bel_v k) l
@[simp] theorem wm (l:List Sm):aF (l.map Sm.v)=[]:=cj Sm.owns_v l
@[simp] theorem Tb.frz_v (h:af) (c:Tb):c.v.frz h=c.v:=by simp [Tb.v,aa.frz,aN]
@[simp] theorem Tb.bel_v (k:Nat) (c:Tb):c.v.bel k=true:=by simp [Tb.v,aa.bel,aC]
@[simp] theorem Tb.owns_v (c:Tb):c.v.owns=[]:=by simp [Tb.v,aa.owns,aF]
@[simp] theorem Tx (h:af) (l:List Tb):aN h (l.map Tb.v)=l.map Tb.v:=bf h (Tb.frz_v h) l
@[simp] theorem oP (k:Nat) (l:List Tb):aC k (l.map Tb.v)=true:=cG k (Tb.bel_v k) l
@[simp] theorem R2 (l:List Tb):aF (l.map Tb.v)=[]:=cj Tb.owns_v l
@[simp] theorem Sc.frz_v (h:af) (c:Sc):c.v.frz h=c.v:=by simp [Sc.v,aa.frz,aN]
@[simp] theorem Sc.bel_v (k:Nat) (c:Sc):c.v.bel k=true:=by simp [Sc.v,aa.bel,aC]
@[simp] theorem Sc.owns_v (c:Sc):c.v.owns=[]:=by simp [Sc.v,aa.owns,aF]
def Ct.beq (a b:Ct):Bool:=(a.name==b.name) && ((a.has==b.has) && a.arg.beq b.arg)
def Co.beq (a b:Co):Bool:=(a.name==b.name) && a.type.beq b.type
def Rf.beq (a b:Rf):Bool:=(a.col==b.col) && (a.tab==b.tab)
def Sm.beq (a b:Sm):Bool:=(a.name==b.name) && br Ct.beq a.ctors b.ctors
def Tb.beq (a b:Tb):Bool:=(a.name==b.name) && (br Co.beq a.cols b.cols && ((a.key==b.key) && (br Rf.beq a.refs b.refs && a.chk.beq b.chk)))
def Sc.beq (a b:Sc):Bool:=br Sm.beq a.sums b.sums && br Tb.beq a.tabs b.tabs
def Ct.sm (c:Ct):Prop:=c.arg.sz<100000000
def Co.sm (c:Co):Prop:=c.type.sz<100000000
def Sm.sm (s:Sm):Prop:=s.ctors.length<1000000000/\∀ c∈s.ctors,c.sm
def Tb.sm (t:Tb):Prop:=t.cols.length<1000000000/\(∀ c∈t.cols,c.sm)/\t.key.length<1000000000/\t.refs.length<1000000000/\t.chk.sz<100000000
def Sc.sm (s:Sc):Prop:=s.sums.length<1000000000/\(∀ x∈s.sums,x.sm)/\s.tabs.length<1000000000/\∀ x∈s.tabs,x.sm
theorem aH {α:Type} (l:List α) (d:α) (i:Nat) (h:i<l.length):l.getD i d∈l:=by
 rw [List.getD_eq_getElem?_getD,List.getElem?_eq_getElem h];exact List.getElem_mem h
theorem fW (c:Ct):(Ct.v c).cells=[.str c.name,.bool c.has,.int .i64 c.arg.kind,.str c.arg.name,.int .i64 c.arg.n,.imm (c.arg.names.map .str),.imm (c.arg.kids.map Ty.enc)]:=rfl
theorem de (c:Co):(Co.v c).cells=[.str c.name,.int .i64 c.type.kind,.str c.type.name,.int .i64 c.type.n,.imm (c.type.names.map .str),.imm (c.type.kids.map Ty.enc)]:=rfl
theorem eK (r:Rf):(Rf.v r).cells=[.str r.col,.str r.tab]:=rfl
theorem cr (s:Sm):(Sm.v s).cells=[.str s.name,.imm (s.ctors.map Ct.v)]:=rfl
theorem cL (t:Tb):(Tb.v t).cells=[.str t.name,.imm (t.cols.map Co.v),.imm (t.key.map .str),.imm (t.refs.map Rf.v),.int .i64 t.chk.kind,.str t.chk.name,.int .i64 t.chk.n,.str t.chk.s,.imm (t.chk.names.map .str),.imm (t.chk.binds.map .str),.imm (t.chk.kids.map Ex.enc),.int .i64 t.chk.pos,.int .i64 t.chk.fin]:=rfl
end Go.Proofs.YtcpklndelobigaaGreatDoor
namespace Go.Proofs.YtcpklndelobigaaGreatDoor
open Go.Proofs.YtcpklndelobigaaGreatDoor.Abs
set_option maxRecDepth 20000
set_option maxHeartbeats 4000000
theorem xL (a b:Ct) (hs:a.sm):ae cx 57 [Ct.v a,Ct.v b] (.bool (a.beq b)):=by
 refine fI 24 0 [(ResultVar.tmp 4)] Tryz.func57 kq ?_;refine zZ (fun _=>[(0,Ct.v a),(1,Ct.v b)]) (fun _=>[]) ?_ ?_;refine zW 3 (fun _=>[(2,.ptr 0 0),(3,.ptr 1 0)]) (fun _=>[.box [.str a.name,.bool (a.has),.int .i64 (a.arg.kind),.str a.arg.name,.int .i64 (a.arg.n),.imm (a.arg.names.map aa.str),.imm (a.arg.kids.map Ty.enc)],.box [.str b.name,.bool (b.has),.int .i64 (b.arg.kind),.str b.arg.name,.int .i64 (b.arg.n),.imm (b.arg.names.map aa.str),.imm (b.arg.kids.map Ty.enc)]]) ?_ ?_;apply zV 6;by_cases hb1:a.name=b.name;refine zm [9,10] (beq_iff_eq.2 hb1) ?_ ?_;apply qr 7;by_cases hb2:((a.has)==(b.has))=true;refine zm [15,16,17] (hb2) ?_ ?_;apply qr 4;refine qP (jI a.arg b.arg (by exact hs)) (by simp [Ty.v,Ex.v,Ct.v,Co.v,Rf.v,Sm.v,Tb.v]) (by simp [Ty.v,Ex.v,Ct.v,Co.v,Rf.v,Sm.v,Tb.v]) (by simp [Ty.v,Ex.v,Ct.v,Co.v,Rf.v,Sm.v,Tb.v]) kq ?_;refine qX 2 ?_ ?_;refine aD (b:=(a.arg.beq b.arg)) (.inr rfl) kq ?_
 . simp [Ct.beq, *]
 iterate 3 kernel_rfl
 refine zm [15,16,17] (Bool.eq_false_iff.2 hb2) ?_ ?_;refine qX 7 ?_ ?_;refine aD (b:=false) (.inr rfl) kq ?_
 . simp [Ct.beq, *]
 iterate 4 kernel_rfl
 refine zm [9,10] (beq_eq_false_iff_ne.2 hb1) ?_ ?_;refine qX 14 ?_ ?_;refine aD (b:=false) (.inr rfl) kq ?_
 . simp [Ct.beq, *]
 iterate 5 kernel_rfl
theorem xQ (a b:Co) (hs:a.sm):ae cx 61 [Co.v a,Co.v b] (.bool (a.beq b)):=by
 refine fI 17 0 [(ResultVar.tmp 4)] Tryz.func61 kq ?_;refine zZ (fun _=>[(0,Co.v a),(1,Co.v b)]) (fun _=>[]) ?_ ?_;refine zW 3 (fun _=>[(2,.ptr 0 0),(3,.ptr 1 0)]) (fun _=>[.box [.str a.name,.int .i64 (a.type.kind),.str a.type.name,.int .i64 (a.type.n),.imm (a.type.names.map aa.str),.imm (a.type.kids.map Ty.enc)],.box [.str b.name,.int .i64 (b.type.kind),.str b.type.name,.int .i64 (b.type.n),.imm (b.type.names.map aa.str),.imm (b.type.kids.map Ty.enc)]]) ?_ ?_;apply zV 6;by_cases hb1:a.name=b.name;refine zm [9,10] (beq_iff_eq.2 hb1) ?_ ?_;apply qr 4;refine qP (jI a.type b.type (by exact hs)) (by simp [Ty.v,Ex.v,Ct.v,Co.v,Rf.v,Sm.v,Tb.v]) (by simp [Ty.v,Ex.v,Ct.v,Co.v,Rf.v,Sm.v,Tb.v]) (by simp [Ty.v,Ex.v,Ct.v,Co.v,Rf.v,Sm.v,Tb.v]) kq ?_;refine qX 2 ?_ ?_;refine aD (b:=(a.type.beq b.type)) (.inr rfl) kq ?_
 . simp [Co.beq, *]
 iterate 3 kernel_rfl
 refine zm [9,10] (beq_eq_false_iff_ne.2 hb1) ?_ ?_;refine qX 7 ?_ ?_;refine aD (b:=false) (.inr rfl) kq ?_
 . simp [Co.beq, *]
 iterate 5 kernel_rfl
abbrev tG (a:List Ct)(k:Nat):=(a.getD k Ct.zero)
abbrev tH (b:List Ct)(k:Nat):=(b.getD k Ct.zero)
theorem uJ (a b:List Ct) (f:Nat) (p:Ct->Ct->Bool) (hc:∀ i,i<a.length->i<b.length->ae cx f [(a.getD i Ct.zero).v,(b.getD i Ct.zero).v] (.bool (p (a.getD i Ct.zero) (b.getD i Ct.zero)))) (hn:a.length<1000000000):ae cx 60 [.imm (a.map Ct.v),.imm (b.map Ct.v),.fn (.func f) [] []] (.bool (br p a b)):=by
 refine fI 32 0 [(ResultVar.tmp 6)] Tryz.func60 kq ?_;refine zZ (fun _=>[(0,.imm (a.map Ct.v)),(1,.imm (b.map Ct.v)),(2,.fn (.func f) [] [])]) (fun _=>[]) ?_ ?_;apply zW 1 id id;apply ai;apply zV 1;refine qy (aj (l:=a) (enc:=Ct.v) kq gM) ?_ ?_ ?_;apply qr 1;refine qy (aj (l:=b) (enc:=Ct.v) kq gM) ?_ ?_ ?_;apply zR 1 (mU [(14,.bool (((a.length:Nat):Int) != ((b.length:Nat):Int)))]) id;by_cases hb1:((a.length:Nat):Int)=((b.length:Nat):Int);refine qf (x:=(((a.length:Nat):Int) != ((b.length:Nat):Int))) (bne_eq_false_iff_eq.2 hb1) ?_ ?_;apply qK;apply zZ (mT [] [14]) id;apply ai;apply zV 1;refine qy (aj (l:=a) (enc:=Ct.v) kq gM) ?_ ?_ ?_;apply zR 1 (mT [(15,.imm (a.map Ct.v)),(16,nI a.length),(17,.int .i64 0)] [0]) id;apply qB 0;refine aT (σ:=Nat) (fun k=>[(1,.imm (b.map Ct.v)),(2,.fn (.func f) [] []),(15,.imm (a.map Ct.v)),(16,.int .i64 ((a.length:Nat):Int)),(17,nI k)]) (fun k=>[]) (fun k=>k<=a.length/\∀ i,i<k->p (a.getD i Ct.zero) (b.getD i Ct.zero)=true) (fun k=>a.length - k) 0 kq zq (fg kq kq (by simp [nG,aa.bel]) zq) ?_;rintro k ⟨hk,ha⟩;apply zW 1 (mU [(18,.bool (decide (((k:Nat):Int)<((a.length:Nat):Int))))]) id;apply ai;by_cases hb2:((k:Nat):Int)<((a.length:Nat):Int);apply qt (decide_eq_true hb2);apply qK;apply zZ (mT [] [18]) id;apply ai;apply qB 1;apply zV 1;refine qy ((au (k:=.i64) (l:=a) (enc:=Ct.v) (i:=((k:Nat):Int)) Ct.zero kq gM mn (fun _=>rfl) oq oq).trans (congrArg (fun cs=>some (aa.pimm cs 0,_)) (fW (tG a k)))) ?_ ?_ ?_;apply zR 4 (mU [(7,nI k),(8,.ptr 0 0)]) (mH [] [.box [.str (tG a k).name,.bool ((tG a k).has),.int .i64 ((tG a k).arg.kind),.str (tG a k).arg.name,.int .i64 ((tG a k).arg.n),.imm ((tG a k).arg.names.map aa.str),.imm ((tG a k).arg.kids.map Ty.enc)]]);apply zV 2;refine qy ((au (k:=.i64) (l:=b) (enc:=Ct.v) (i:=((k:Nat):Int)) Ct.zero kq gM mn (fun _=>rfl) oq oq).trans (congrArg (fun cs=>some (aa.pimm cs 0,_)) (fW (tH b k)))) ?_ ?_ ?_;apply zR 3 (mT [(9,.ptr 1 0)] [7]) (mH [] [.box [.str (tH b k).name,.bool ((tH b k).has),.int .i64 ((tH b k).arg.kind),.str (tH b k).arg.name,.int .i64 ((tH b k).arg.n),.imm ((tH b k).arg.names.map aa.str),.imm ((tH b k).arg.kids.map Ty.enc)]]);apply zV 3;refine qP (hc k oq oq) (by simp [Ty.v,Ex.v,Ct.v,Co.v,Rf.v,Sm.v,Tb.v]) (by simp [Ty.v,Ex.v,Ct.v,Co.v,Rf.v,Sm.v,Tb.v]) (by simp [Ty.v,Ex.v,Ct.v,Co.v,Rf.v,Sm.v,Tb.v]) kq ?_;apply zR 1 (mT [(30,.bool (!(p (tG a k) (tH b k))))] [8,9]) id;by_cases hb3:(p (a.getD k Ct.zero) (b.getD k Ct.zero))=true;refine qf (x:=(!(p (tG a k) (tH b k)))) (congrArg not (hb3)) ?_ ?_;refine qk ?_ ?_;refine ag ?_;apply ab;apply zZ (mT [] [30]) id;apply qo;refine qy (az (a:=((k:Nat):Int)) (b:=1) kq oq oq) ?_ ?_ ?_;apply qr 1;apply qe;refine ab ⟨k+1,?_,?_,(fg kq kq (by simp [nG,aa.bel]) zq)⟩
 . omega
 . refine ⟨by omega,fun i hi=>?_⟩;rcases Nat.lt_succ_iff_lt_or_eq.1 hi with h|h
   . exact ha i h
   . subst h;assumption
 iterate 8 kernel_rfl
 refine qt (x:=(!(p (tG a k) (tH b k)))) (congrArg not (Bool.eq_false_iff.2 hb3)) ?_ ?_;apply zV 1;refine qT ?_ ?_;apply iR;apply aR;apply aR;apply iR;apply aR;refine aD (b:=false) (.inr rfl) kq ?_
 rotate_left
 iterate 19 kernel_rfl
 apply qf (decide_eq_false hb2);refine aK 0 kq kq ?_;apply ac;apply ac;refine ao ?_;apply ab;refine zZ (fun _=>[]) (fun _=>[]) ?_ ?_;apply zV 1;refine qT ?_ ?_;refine aD (b:=true) (.inr rfl) kq ?_
 rotate_left
 iterate 16 kernel_rfl
 refine qt (x:=(((a.length:Nat):Int) != ((b.length:Nat):Int))) (bne_iff_ne.2 hb1) ?_ ?_;apply zV 1;refine qT ?_ ?_;apply aR;refine aD (b:=false) (.inr rfl) kq ?_
 rotate_left
 iterate 13 kernel_rfl
 all_goals
  first|exact (cT p a b oq).symm|exact (cq p Ct.zero Ct.zero a b oq (fun i hi=>ha i oq)).symm|exact (ef p Ct.zero Ct.zero a b k oq oq (Bool.eq_false_iff.2 aq)).symm
abbrev ui (a:List Co)(k:Nat):=a.getD k Co.zero
abbrev uu (b:List Co)(k:Nat):=b.getD k Co.zero
theorem uK (a b:List Co) (f:Nat) (p:Co->Co->Bool) (hc:∀ i,i<a.length->i<b.length->ae cx f [(a.getD i Co.zero).v,(b.getD i Co.zero).v] (.bool (p (a.getD i Co.zero) (b.getD i Co.zero)))) (hn:a.length<1000000000):ae cx 63 [.imm (a.map Co.v),.imm (b.map Co.v),.fn (.func f) [] []] (.bool (br p a b)):=by
 refine fI 32 0 [(ResultVar.tmp 6)] Tryz.func63 kq ?_;refine zZ (fun _=>[(0,.imm (a.map Co.v)),(1,.imm (b.map Co.v)),(2,.fn (.func f) [] [])]) (fun _=>[]) ?_ ?_;apply zW 1 id id;apply ai;apply zV 1;refine qy (aj (l:=a) (enc:=Co.v) kq em) ?_ ?_ ?_;apply qr 1;refine qy (aj (l:=b) (enc:=Co.v) kq em) ?_ ?_ ?_;apply zR 1 (mU [(14,.bool (((a.length:Nat):Int) != ((b.length:Nat):Int)))]) id;by_cases hb1:((a.length:Nat):Int)=((b.length:Nat):Int);refine qf (x:=(((a.length:Nat):Int) != ((b.length:Nat):Int))) (bne_eq_false_iff_eq.2 hb1) ?_ ?_;apply qK;apply zZ (mT [] [14]) id;apply ai;apply zV 1;refine qy (aj (l:=a) (enc:=Co.v) kq em) ?_ ?_ ?_;apply zR 1 (mT [(15,.imm (a.map Co.v)),(16,nI a.length),(17,.int .i64 0)] [0]) id;apply qB 0;refine aT (σ:=Nat) (fun k=>[(1,.imm (b.map Co.v)),(2,.fn (.func f) [] []),(15,.imm (a.map Co.v)),(16,.int .i64 ((a.length:Nat):Int)),(17,.int .i64 ((k:Nat):Int))]) (fun k=>[]) (fun k=>k<=a.length/\∀ i,i<k->p (a.getD i Co.zero) (b.getD i Co.zero)=true) (fun k=>a.length - k) 0 kq zq (fg kq kq (by simp [nG,aa.bel]) zq) ?_;rintro k ⟨hk,ha⟩;apply zW 1 (mU [(18,.bool (decide (((k:Nat):Int)<((a.length:Nat):Int))))]) id;apply ai;by_cases hb2:((k:Nat):Int)<((a.length:Nat):Int);apply qt (decide_eq_true hb2);apply qK;apply zZ (mT [] [18]) id;apply ai;apply qB 1;apply zV 1;refine qy ((au (k:=.i64) (l:=a) (enc:=Co.v) (i:=((k:Nat):Int)) Co.zero kq em j5 (fun _=>rfl) oq oq).trans (congrArg (fun cs=>some (aa.pimm cs 0,_)) (de (ui a k)))) ?_ ?_ ?_;apply zR 4 (mU [(7,nI k),(8,.ptr 0 0)]) (mH [] [.box [.str (ui a k).name,.int .i64 ((ui a k).type.kind),.str (ui a k).type.name,.int .i64 ((ui a k).type.n),.imm ((ui a k).type.names.map aa.str),.imm ((ui a k).type.kids.map Ty.enc)]]);apply zV 2;refine qy ((au (k:=.i64) (l:=b) (enc:=Co.v) (i:=((k:Nat):Int)) Co.zero kq em j5 (fun _=>rfl) oq oq).trans (congrArg (fun cs=>some (aa.pimm cs 0,_)) (de (uu b k)))) ?_ ?_ ?_;apply zR 3 (mT [(9,.ptr 1 0)] [7]) (mH [] [.box [.str (uu b k).name,.int .i64 ((uu b k).type.kind),.str (uu b k).type.name,.int .i64 ((uu b k).type.n),.imm ((uu b k).type.names.map aa.str),.imm ((uu b k).type.kids.map Ty.enc)]]);apply zV 3;refine qP (hc k oq oq) (by simp [Ty.v,Ex.v,Ct.v,Co.v,Rf.v,Sm.v,Tb.v]) (by simp [Ty.v,Ex.v,Ct.v,Co.v,Rf.v,Sm.v,Tb.v]) (by simp [Ty.v,Ex.v,Ct.v,Co.v,Rf.v,Sm.v,Tb.v]) kq ?_;apply zR 1 (mT [(30,.bool (!(p (ui a k) (uu b k))))] [8,9]) id;by_cases hb3:(p (ui a k) (uu b k))=true;refine qf (x:=(!(p (ui a k) (uu b k)))) (congrArg not (hb3)) ?_ ?_;refine qk ?_ ?_;refine ag ?_;apply ab;apply zZ (mT [] [30]) id;apply qo;refine qy (az (a:=((k:Nat):Int)) (b:=1) kq oq oq) ?_ ?_ ?_;apply qr 1;apply qe;refine ab ⟨k+1,?_,?_,(fg kq kq (by simp [nG,aa.bel]) zq)⟩
 . omega
 . refine ⟨by omega,fun i hi=>?_⟩;rcases Nat.lt_succ_iff_lt_or_eq.1 hi with h|h
   . exact ha i h
   . subst h;assumption
 iterate 8 kernel_rfl
 refine qt (x:=(!(p (ui a k) (uu b k)))) (congrArg not (Bool.eq_false_iff.2 hb3)) ?_ ?_;apply zV 1;refine qT ?_ ?_;apply iR;apply aR;apply aR;apply iR;apply aR;refine aD (b:=false) (.inr rfl) kq ?_
 rotate_left
 iterate 19 kernel_rfl
 apply qf (decide_eq_false hb2);refine aK 0 kq kq ?_;apply ac;apply ac;refine ao ?_;apply ab;refine zZ (fun _=>[]) (fun _=>[]) ?_ ?_;apply zV 1;refine qT ?_ ?_;refine aD (b:=true) (.inr rfl) kq ?_
 rotate_left
 iterate 16 kernel_rfl
 refine qt (x:=(((a.length:Nat):Int) != ((b.length:Nat):Int))) (bne_iff_ne.2 hb1) ?_ ?_;apply zV 1;refine qT ?_ ?_;apply aR;refine aD (b:=false) (.inr rfl) kq ?_
 rotate_left
 iterate 13 kernel_rfl
 all_goals
  first|exact (cT p a b oq).symm|exact (cq p Co.zero Co.zero a b oq (fun i hi=>ha i oq)).symm|exact (ef p Co.zero Co.zero a b k oq oq (Bool.eq_false_iff.2 aq)).symm
def JZ (ev:Operand->aa):Op->Option (BinOp×TypeId×aa×aa)
 | .binOp op t x y _=>some (op,t,ev x,ev y)
 | _=>none
section
variable {P:Program} {ev:Operand->aa} {op:Op} {h:af}
theorem BN {b:BinOp} {t:TypeId} {x y:aa} (hv:JZ ev op=some (b,t,x,y)):aop P h ev op=dI h (we P b t x y):=by
 unfold JZ at hv;split at hv <;> simp at hv;obtain ⟨rfl,rfl,rfl,rfl⟩:=hv;rfl
theorem PZ {t:TypeId} {xs ys:List aa} {q:Bool} (hv:JZ ev op=some (.neq,t,.agg xs,.agg ys)) (hq:l8 P t (.agg xs) (.agg ys)=some q):aop P h ev op=some (.bool !q,h):=by
 rw [BN hv];simp only [we,hq];rfl
end
theorem Hi (a b:Rf):l8 cx.P 55 a.v b.v=some (a.beq b):=by
 have e:l8 cx.P 55 a.v b.v=(match some (a.col==b.col) with
  | some true=>(match some (a.tab==b.tab) with
   | some true=>some true
   | some false=>some false
   | none=>none)
  | some false=>some false
  | none=>none):=by kernel_rfl
 rw [e,Rf.beq];cases a.col==b.col <;> cases a.tab==b.tab <;> rfl
theorem yb (a b:List Rf) (hn:a.length<1000000000):ae cx 65 [.imm (a.map Rf.v),.imm (b.map Rf.v)] (.bool (br Rf.beq a b)):=by
 refine fI 26 0 [(ResultVar.tmp 4)] Tryz.func65 kq ?_;refine zZ (fun _=>[(0,.imm (a.map Rf.v)),(1,.imm (b.map Rf.v))]) (fun _=>[]) ?_ ?_;apply zW 1 id id;apply ai;apply zV 1;refine qy (aj (l:=a) (enc:=Rf.v) kq ge) ?_ ?_ ?_;apply qr 1;refine qy (aj (l:=b) (enc:=Rf.v) kq ge) ?_ ?_ ?_;apply zR 1 (mU [(10,.bool (((a.length:Nat):Int) != ((b.length:Nat):Int)))]) id;by_cases hb1:((a.length:Nat):Int)=((b.length:Nat):Int);refine qf (x:=(((a.length:Nat):Int) != ((b.length:Nat):Int))) (bne_eq_false_iff_eq.2 hb1) ?_ ?_;apply qK;apply zZ (mT [] [10]) id;apply ai;apply zV 1;refine qy (aj (l:=a) (enc:=Rf.v) kq ge) ?_ ?_ ?_;apply zR 1 (mU [(12,nI a.length),(13,.int .i64 0)]) id;apply qB 0;refine aT (σ:=Nat) (fun k=>[(0,.imm (a.map Rf.v)),(1,.imm (b.map Rf.v)),(12,.int .i64 ((a.length:Nat):Int)),(13,nI k)]) (fun k=>[]) (fun k=>k<=a.length/\∀ i,i<k->Rf.beq (a.getD i Rf.zero) (b.getD i Rf.zero)=true) (fun k=>a.length - k) 0 kq zq (fg kq kq (by simp [nG,aa.bel]) zq) ?_;rintro k ⟨hk,ha⟩;apply zW 1 (mU [(14,.bool (decide (((k:Nat):Int)<((a.length:Nat):Int))))]) id;apply ai;by_cases hb2:((k:Nat):Int)<((a.length:Nat):Int);apply qt (decide_eq_true hb2);apply qK;apply zZ (mT [] [14]) id;apply ai;apply qB 1;apply zW 2 (mU [(5,nI k)]) id;apply ai;refine zD cxM kq ax ?_;apply qu 2;refine qd ((au (k:=.i64) (l:=a) (enc:=Rf.v) (i:=((k:Nat):Int)) Rf.zero kq ge mW (fun _=>rfl) oq oq).trans (congrArg (fun cs=>some (aa.pimm cs 0,_)) (eK (a.getD k Rf.zero)))) ?_ ?_ ?_ ?_;apply qu 3;refine qd ((au (k:=.i64) (l:=b) (enc:=Rf.v) (i:=((k:Nat):Int)) Rf.zero kq ge mW (fun _=>rfl) oq oq).trans (congrArg (fun cs=>some (aa.pimm cs 0,_)) (eK (b.getD k Rf.zero)))) ?_ ?_ ?_ ?_;apply qu 1;refine qd (PZ kq (Hi (a.getD k Rf.zero) (b.getD k Rf.zero))) ?_ ?_ ?_ ?_;refine bY kq ⟨kq,?_⟩;refine zE (mT [(24,.bool (!(Rf.beq (a.getD k Rf.zero) (b.getD k Rf.zero))))] [5]) id ?_ ?_;by_cases hb3:(Rf.beq (a.getD k Rf.zero) (b.getD k Rf.zero))=true;refine qf (x:=(!(Rf.beq (a.getD k Rf.zero) (b.getD k Rf.zero)))) (congrArg not (hb3)) ?_ ?_;refine qk ?_ ?_;refine ag ?_;apply ab;apply zZ (mT [] [24]) id;apply qo;refine qy (az (a:=((k:Nat):Int)) (b:=1) kq oq oq) ?_ ?_ ?_;apply qr 1;apply qe;refine ab ⟨k+1,?_,?_,(fg kq kq (by simp [nG,aa.bel]) zq)⟩
 . omega
 . refine ⟨by omega,fun i hi=>?_⟩;rcases Nat.lt_succ_iff_lt_or_eq.1 hi with h|h
   . exact ha i h
   . subst h;simp_all
 iterate 8 kernel_rfl
 refine qt (x:=(!(Rf.beq (a.getD k Rf.zero) (b.getD k Rf.zero)))) (congrArg not (Bool.eq_false_iff.2 hb3)) ?_ ?_;apply zV 1;refine qT ?_ ?_;apply iR;apply aR;apply aR;apply iR;apply aR;refine aD (b:=false) (.inr rfl) kq ?_
 rotate_left
 iterate 24 kernel_rfl
 apply qf (decide_eq_false hb2);refine aK 0 kq kq ?_;apply ac;apply ac;refine ao ?_;apply ab;refine zZ (fun _=>[]) (fun _=>[]) ?_ ?_;apply zV 1;refine qT ?_ ?_;refine aD (b:=true) (.inr rfl) kq ?_
 rotate_left
 iterate 16 kernel_rfl
 refine qt (x:=(((a.length:Nat):Int) != ((b.length:Nat):Int))) (bne_iff_ne.2 hb1) ?_ ?_;apply zV 1;refine qT ?_ ?_;apply aR;refine aD (b:=false) (.inr rfl) kq ?_
 rotate_left
 iterate 13 kernel_rfl
 all_goals
  first|exact (cT Rf.beq a b oq).symm|exact (cq Rf.beq Rf.zero Rf.zero a b oq (fun i hi=>ha i oq)).symm|exact (ef Rf.beq Rf.zero Rf.zero a b k oq oq (by simp_all)).symm
def im (x m:Int):Int:=if x<0 then (-(x+1)).tmod m else x.tmod m
def ah (l:List Int) (q:Nat) (m:Int):Int:=if q<l.length then im (l.getD q 0) m else 0
def jU (l:List Int):Prop:=∀ x∈l,-9223372036854775808<=x/\x<=9223372036854775807
theorem r7 {l:List Int} (h:jU l) (i:Nat):-9223372036854775808<=l.getD i 0/\l.getD i 0<=9223372036854775807:=by
 by_cases hi:i<l.length
 . rw [List.getD_eq_getElem?_getD,List.getElem?_eq_getElem hi];exact h _ (List.getElem_mem hi)
 . rw [List.getD_eq_getElem?_getD,List.getElem?_eq_none oq];simp
theorem sk {x m:Int} (hx:0<=x) (hm:0<m):0<=x.tmod m/\x.tmod m<m:=by
 rw [Int.tmod_eq_emod_of_nonneg hx];exact ⟨Int.emod_nonneg _ oq,Int.emod_lt_of_pos _ hm⟩
theorem Cp (x m:Int) (hm:0<m):0<=im x m/\im x m<m:=by
 unfold im;split
 . exact sk oq hm
 . exact sk oq hm
theorem bb (l:List Int) (q:Nat) (m:Int) (hm:0<m):0<=ah l q m/\ah l q m<m:=by
 unfold ah;split
 . exact Cp _ _ hm
 . omega
theorem Bl {l:List Int} {q:Nat} {m:Int} (h:q<l.length):ah l q m=im (l.getD q 0) m:=by rw [ah,if_pos h]
theorem E8 {l:List Int} {q:Nat} {m:Int} (h:¬ q<l.length):ah l q m=0:=by rw [ah,if_neg h]
theorem zY (x m:Int) (hx:-9223372036854775808<=x/\x<=9223372036854775807) (hm:0<m):ae cx 13 [.int .i64 (x),.int .i64 (m)] (.int .i64 (im x m)):=by
 refine fI 13 0 [(ResultVar.tmp 4)] Tryz.func13 kq ?_;refine zZ (fun _=>[(0,.int .i64 (x)),(1,.int .i64 (m))]) (fun _=>[]) ?_ ?_;apply zW 1 id id;apply ai;apply zW 2 (mU [(6,.bool (decide ((x)<0)))]) id;by_cases hb1:(x)<0;apply qt (decide_eq_true hb1);apply qo;apply qr 1;refine qy (az (a:=(x)) (b:=1) kq oq oq) ?_ ?_ ?_;refine qy (VK (a:=((x)+1)) kq oq oq) ?_ ?_ ?_;refine qR 1 [(0,.int .i64 (-((x)+1))),(1,.int .i64 (m))] [] ?_ ?_;apply zV 2;refine qy (Dt (a:=(-((x)+1))) (b:=(m)) kq oq) ?_ ?_ ?_;refine qX 1 ?_ ?_;refine dm (n:=((-((x)+1)).tmod (m))) (.inr rfl) kq ?_
 . simp [im, *]
 iterate 12 kernel_rfl
 apply qf (decide_eq_false hb1);apply qK;refine zZ (fun _=>[(0,.int .i64 (x)),(1,.int .i64 (m))]) (fun _=>[]) ?_ ?_;apply zV 2;refine qy (Dt (a:=(x)) (b:=(m)) kq oq) ?_ ?_ ?_;refine qX 1 ?_ ?_;refine dm (n:=((x).tmod (m))) (.inr rfl) kq ?_
 . simp [im, *]
 iterate 11 kernel_rfl
abbrev c4 :=aa.int .i64
theorem bu (l:List Int) (q:Nat) (m:Int) (hl:jU l) (hm:0<m):ae cx 15 [.imm (l.map c4),.int .i64 ((q:Nat):Int),.int .i64 (m)] (.int .i64 (ah l q m)):=by
 refine fI 21 0 [(ResultVar.tmp 6)] Tryz.func15 kq ?_;refine zZ (fun _=>[(0,.imm (l.map c4)),(1,nI q),(2,.int .i64 (m))]) (fun _=>[]) ?_ ?_;apply zW 1 id id;apply ai;apply zV 3;by_cases hb1:((q:Nat):Int)<0;refine zm [8,9] (decide_eq_true hb1) ?_ ?_;refine zR 5 (fun _=>[(0,.imm (l.map c4)),(1,nI q),(2,.int .i64 (m)),(14,.bool true)]) (fun _=>[]) ?_ ?_;refine ga kq kq ?_;apply zV 1;refine qT ?_ ?_;apply aR;refine dm (n:=0) (.inr rfl) kq ?_
 rotate_left
 iterate 4 kernel_rfl
 refine zm [8,9] (decide_eq_false hb1) ?_ ?_;apply qr 2;refine qy (aj (l:=l) (enc:=c4) kq Bu) ?_ ?_ ?_;refine zR 2 (fun _=>[(0,.imm (l.map c4)),(1,nI q),(2,.int .i64 (m)),(14,.bool (decide (((q:Nat):Int) >= ((l.length:Nat):Int))))]) (fun _=>[]) ?_ ?_;by_cases hb2:((q:Nat):Int) >= ((l.length:Nat):Int);apply qt (decide_eq_true hb2);apply zV 1;refine qT ?_ ?_;apply aR;refine dm (n:=0) (.inr rfl) kq ?_
 rotate_left
 iterate 3 kernel_rfl
 apply qf (decide_eq_false hb2);apply qK;refine zZ (fun _=>[(0,.imm (l.map c4)),(1,nI q),(2,.int .i64 (m))]) (fun _=>[]) ?_ ?_;apply zV 2;refine qy (au (k:=.i64) (l:=l) (enc:=c4) (i:=((q:Nat):Int)) 0 kq Bu ty3 (fun _=>rfl) (by first|omega|exact r7 hl _|assumption|decide) (by first|omega|exact r7 hl _|assumption|decide)) ?_ ?_ ?_;apply qr 2;refine qc [.int .i64 ((l.getD q 0)),.int .i64 (m)] (zY ((l.getD q 0)) (m) (by first|omega|exact r7 hl _|assumption|decide) (by first|omega|exact r7 hl _|assumption|decide)) ?_ ?_;refine qX 1 ?_ ?_;refine dm (n:=(im ((l.getD q 0)) (m))) (.inr rfl) kq ?_
 rotate_left
 iterate 18 kernel_rfl
 all_goals
  first|(exfalso;omega)|(rw [Bl oq];done)|(rw [Bl oq];simp;done)|(rw [E8 oq];done)
end Go.Proofs.YtcpklndelobigaaGreatDoor
