/- The context of the schema's seat; slices.Clone at its instances: a new array of the same elements. Conditions: the elements have the type's cells, and their bytes can be had. -/
import Derived.Test.YtcpklndelobigaaGreatDoorTy
import Derived.Test.YtcpklndelobigaaGreatDoorAbsg
set_option linter.all false
namespace Go.Proofs.YtcpklndelobigaaGreatDoor
open Go.Proofs.YtcpklndelobigaaGreatDoor.Abs
set_option maxRecDepth 20000
set_option maxHeartbeats 4000000
def aT (f:Func):Code:=match f.body with
 | some c=>c
 | none=>.skip
def oe:List aa:=[.str [97,110,100],.str [97,115],.str [99,104,101,99,107],.str [100,101,108,101,116,101],.str [101,108,115,101],.str [102,97,108,115,101],.str [102,117,110],.str [105,102],.str [105,110],.str [105,110,115,101,114,116],.str [107,101,121],.str [108,101,116],.str [109,97,116,99,104],.str [110,111,116],.str [111,114],.str [112,114,111,99],.str [114,101,102],.str [115,101,116],.str [116,97,98,108,101],.str [116,104,101,110],.str [116,111],.str [116,114,117,101],.str [116,121,112,101],.str [117,112,100,97,116,101],.str [119,104,101,114,101],.str [119,105,116,104]]
def nT:List aa:=[.str [61,61],.str [33,61],.str [60,61],.str [60,45],.str [45,62],.str [43,43],.str [60],.str [62],.str [61],.str [43],.str [45],.str [42],.str [40],.str [41],.str [123],.str [125],.str [91],.str [93],.str [44],.str [46],.str [58],.str [124],.str [59],.str [63]]
noncomputable def cx:Cx:=⟨Tryz.prog,fun g=>bif Nat.beq g 5 then some oe else bif Nat.beq g 6 then some nT else none⟩
theorem cxM:cx.P.follows .mixedOrders=true:=by kernel_rfl
theorem jk {l:List aa} {h:ae} {r:aa×ae} (hr:r∈(bif l.isEmpty then [true,false] else [false]).map fun b=>((.bool b:aa),h)):∃ b,r=(.bool b,h)∧(b=true→l=[]):=by
 obtain ⟨b,hb,rfl⟩:=List.mem_map.1 hr
 refine ⟨b,rfl,?_⟩
 rintro rfl
 cases l with
 | nil=>rfl
 | cons x l=>simp at hb
theorem gX {P:Program} {ev:Operand→aa} {op:Op} {h h0:ae} {l:List aa} {t e a b a' b':Nat} {z z':aa} {ek:TyK} (hv:mw ev op=some (.append,[t,t],[.full [],.imm l])) (hh:h=h0)
 (ht:aN P t=some ⟨.slice e,a,b,z⟩) (he:aN P e=some ⟨ek,a',b',z'⟩) (hc:0<a'∧z'.cells.length=a'∧dZ a' l=true) (hf:fu l.length b'=true) :
 aop P h ev op=some (.own h0.length 0 l.length,h0++[.arr a' l 0]):=by
 subst hh
 rw [eE hv]
 simp only [cp,fO,ht,he,d9]
 rw [if_pos hc,if_pos ⟨rfl,rfl,by simpa using hf⟩]
 simp
theorem ec {cx:Cx} {m:Nat} {l:List aa} {h:ae} {sz r:Nat} {T:Tm} {e:Exit} (hm:m=h.length) (he:e=.normal∨e=.ret) (hT:Tm.get T r=.own h.length 0 l.length) (hb:h.all (ai.belO (h.length+1))=true) (hbl:av (h.length+1) l=true) :
 ru cx [.tmp r] m (fun v h'=>v=.own h.length 0 l.length∧h'=h++[.arr sz l 0]) e T (h++[.arr sz l 0]):=by
 have ht:(h++[ai.arr sz l 0]).take (h.length+1)=h++[.arr sz l 0]:=List.take_of_length_le zq
 refine ⟨he,[.own h.length 0 l.length],by simp [dU,hT],h.length+1,by omega,by simp [a8,aa.bel],?_,rfl,ht⟩
 rw [ht,List.all_append,hb]
 simp [ai.belO,hbl]
noncomputable def CO:Code:=aT Tryz.f78
theorem sP (l:List aa) (h:ae) (hok:dZ 6 l=true) (hf:fu l.length 96=true) (hb:h.all (ai.belO (h.length+1))=true) (hbl:av (h.length+1) l=true) :
 aL cx 78 [.imm l] h (fun v h'=>v=.own h.length 0 l.length∧h'=h++[.arr 6 l 0]):=by
 refine eJ (cx:=cx) 8 h.length [.tmp 2] Tryz.func78 rfl rfl rfl rfl rfl zq ?_
 show wpA cx 8 h.length (at_ CO []) _ _ _
 refine wSt [0] [(0,.imm l)] h kq rfl ?_
 refine dN kq ?_
 refine fa kq (ch ?_)
 refine dQ 1 kq ?_
 refine e6 kq ?_
 refine ab ?_
 refine wSt [0,2] [(0,.imm l),(2,.full [])] h kq kq ?_
 refine dN kq ?_
 refine dN kq ?_
 refine fa kq (ch ?_)
 refine dQ 1 kq ?_
 refine lC (L:=(bif l.isEmpty then [true,false] else [false]).map fun b=>(.bool b,h)) kq kq kq kq kq ?_
 intro r hr
 obtain ⟨b,rfl,hb0⟩:=jk hr
 refine e6 kq ?_
 refine ab ?_
 refine wSt [0,2,4] [(0,.imm l),(2,.full []),(4,.bool b)] h kq kq ?_
 refine wIf kq b kq (fun e=>?_) (fun _=>?_)
 · have hl:=hb0 e
   subst hl
   refine dN kq ?_
   refine fa kq (ch ?_)
   refine dQ 1 kq ?_
   refine e6 kq ?_
   refine ab ?_
   refine wSt [2] [(2,.full [])] h kq kq ?_
   refine lU 2 6 dq rfl ?_
   exact cK kq (ec rfl (.inr rfl) rfl hb hbl)
 · refine lz kq ?_
   refine ab ?_
   refine wSt [0,2] [(0,.imm l),(2,.full [])] h kq kq ?_
   refine dN kq ?_
   refine fa kq (ch ?_)
   refine dQ 2 kq ?_
   refine kw (v:=.own h.length 0 l.length) (h':=h++[.arr 6 l 0]) kq kq (gX (P:=cx.P) (t:=46) (l:=l) (h0:=h) kq kq fv kQ ⟨by decide,by decide,hok⟩ hf) ?_
   refine dQ 1 kq ?_
   refine e6 kq ?_
   refine ab ?_
   exact cK kq (ec rfl (.inr rfl) rfl hb hbl)
noncomputable def CP:Code:=aT Tryz.f79
theorem sK (l:List aa) (h:ae) (hok:dZ 1 l=true) (hf:fu l.length 16=true) (hb:h.all (ai.belO (h.length+1))=true) (hbl:av (h.length+1) l=true) :
 aL cx 79 [.imm l] h (fun v h'=>v=.own h.length 0 l.length∧h'=h++[.arr 1 l 0]):=by
 refine eJ (cx:=cx) 8 h.length [.tmp 2] Tryz.func79 rfl rfl rfl rfl rfl zq ?_
 show wpA cx 8 h.length (at_ CP []) _ _ _
 refine wSt [0] [(0,.imm l)] h kq rfl ?_
 refine dN kq ?_
 refine fa kq (ch ?_)
 refine dQ 1 kq ?_
 refine e6 kq ?_
 refine ab ?_
 refine wSt [0,2] [(0,.imm l),(2,.full [])] h kq kq ?_
 refine dN kq ?_
 refine dN kq ?_
 refine fa kq (ch ?_)
 refine dQ 1 kq ?_
 refine lC (L:=(bif l.isEmpty then [true,false] else [false]).map fun b=>(.bool b,h)) kq kq kq kq kq ?_
 intro r hr
 obtain ⟨b,rfl,hb0⟩:=jk hr
 refine e6 kq ?_
 refine ab ?_
 refine wSt [0,2,4] [(0,.imm l),(2,.full []),(4,.bool b)] h kq kq ?_
 refine wIf kq b kq (fun e=>?_) (fun _=>?_)
 · have hl:=hb0 e
   subst hl
   refine dN kq ?_
   refine fa kq (ch ?_)
   refine dQ 1 kq ?_
   refine e6 kq ?_
   refine ab ?_
   refine wSt [2] [(2,.full [])] h kq kq ?_
   refine lU 2 1 dq rfl ?_
   exact cK kq (ec rfl (.inr rfl) rfl hb hbl)
 · refine lz kq ?_
   refine ab ?_
   refine wSt [0,2] [(0,.imm l),(2,.full [])] h kq kq ?_
   refine dN kq ?_
   refine fa kq (ch ?_)
   refine dQ 2 kq ?_
   refine kw (v:=.own h.length 0 l.length) (h':=h++[.arr 1 l 0]) kq kq (gX (P:=cx.P) (t:=40) (l:=l) (h0:=h) kq kq b5 ty9 ⟨by decide,by decide,hok⟩ hf) ?_
   refine dQ 1 kq ?_
   refine e6 kq ?_
   refine ab ?_
   exact cK kq (ec rfl (.inr rfl) rfl hb hbl)
noncomputable def C7:Code:=aT Tryz.f80
theorem sU (l:List aa) (h:ae) (hok:dZ 2 l=true) (hf:fu l.length 32=true) (hb:h.all (ai.belO (h.length+1))=true) (hbl:av (h.length+1) l=true) :
 aL cx 80 [.imm l] h (fun v h'=>v=.own h.length 0 l.length∧h'=h++[.arr 2 l 0]):=by
 refine eJ (cx:=cx) 8 h.length [.tmp 2] Tryz.func80 rfl rfl rfl rfl rfl zq ?_
 show wpA cx 8 h.length (at_ C7 []) _ _ _
 refine wSt [0] [(0,.imm l)] h kq rfl ?_
 refine dN kq ?_
 refine fa kq (ch ?_)
 refine dQ 1 kq ?_
 refine e6 kq ?_
 refine ab ?_
 refine wSt [0,2] [(0,.imm l),(2,.full [])] h kq kq ?_
 refine dN kq ?_
 refine dN kq ?_
 refine fa kq (ch ?_)
 refine dQ 1 kq ?_
 refine lC (L:=(bif l.isEmpty then [true,false] else [false]).map fun b=>(.bool b,h)) kq kq kq kq kq ?_
 intro r hr
 obtain ⟨b,rfl,hb0⟩:=jk hr
 refine e6 kq ?_
 refine ab ?_
 refine wSt [0,2,4] [(0,.imm l),(2,.full []),(4,.bool b)] h kq kq ?_
 refine wIf kq b kq (fun e=>?_) (fun _=>?_)
 · have hl:=hb0 e
   subst hl
   refine dN kq ?_
   refine fa kq (ch ?_)
   refine dQ 1 kq ?_
   refine e6 kq ?_
   refine ab ?_
   refine wSt [2] [(2,.full [])] h kq kq ?_
   refine lU 2 2 dq rfl ?_
   exact cK kq (ec rfl (.inr rfl) rfl hb hbl)
 · refine lz kq ?_
   refine ab ?_
   refine wSt [0,2] [(0,.imm l),(2,.full [])] h kq kq ?_
   refine dN kq ?_
   refine fa kq (ch ?_)
   refine dQ 2 kq ?_
   refine kw (v:=.own h.length 0 l.length) (h':=h++[.arr 2 l 0]) kq kq (gX (P:=cx.P) (t:=50) (l:=l) (h0:=h) kq kq gt mD ⟨by decide,by decide,hok⟩ hf) ?_
   refine dQ 1 kq ?_
   refine e6 kq ?_
   refine ab ?_
   exact cK kq (ec rfl (.inr rfl) rfl hb hbl)
noncomputable def CU:Code:=aT Tryz.f55
theorem xG (l:List aa) (h:ae) (hok:dZ 7 l=true) (hf:fu l.length 104=true) (hb:h.all (ai.belO (h.length+1))=true) (hbl:av (h.length+1) l=true) :
 aL cx 55 [.imm l] h (fun v h'=>v=.own h.length 0 l.length∧h'=h++[.arr 7 l 0]):=by
 refine eJ (cx:=cx) 8 h.length [.tmp 2] Tryz.func55 rfl rfl rfl rfl rfl zq ?_
 show wpA cx 8 h.length (at_ CU []) _ _ _
 refine wSt [0] [(0,.imm l)] h kq rfl ?_
 refine dN kq ?_
 refine fa kq (ch ?_)
 refine dQ 1 kq ?_
 refine e6 kq ?_
 refine ab ?_
 refine wSt [0,2] [(0,.imm l),(2,.full [])] h kq kq ?_
 refine dN kq ?_
 refine dN kq ?_
 refine fa kq (ch ?_)
 refine dQ 1 kq ?_
 refine lC (L:=(bif l.isEmpty then [true,false] else [false]).map fun b=>(.bool b,h)) kq kq kq kq kq ?_
 intro r hr
 obtain ⟨b,rfl,hb0⟩:=jk hr
 refine e6 kq ?_
 refine ab ?_
 refine wSt [0,2,4] [(0,.imm l),(2,.full []),(4,.bool b)] h kq kq ?_
 refine wIf kq b kq (fun e=>?_) (fun _=>?_)
 · have hl:=hb0 e
   subst hl
   refine dN kq ?_
   refine fa kq (ch ?_)
   refine dQ 1 kq ?_
   refine e6 kq ?_
   refine ab ?_
   refine wSt [2] [(2,.full [])] h kq kq ?_
   refine lU 2 7 dq rfl ?_
   exact cK kq (ec rfl (.inr rfl) rfl hb hbl)
 · refine lz kq ?_
   refine ab ?_
   refine wSt [0,2] [(0,.imm l),(2,.full [])] h kq kq ?_
   refine dN kq ?_
   refine fa kq (ch ?_)
   refine dQ 2 kq ?_
   refine kw (v:=.own h.length 0 l.length) (h':=h++[.arr 7 l 0]) kq kq (gX (P:=cx.P) (t:=56) (l:=l) (h0:=h) kq kq mz l6 ⟨by decide,by decide,hok⟩ hf) ?_
   refine dQ 1 kq ?_
   refine e6 kq ?_
   refine ab ?_
   exact cK kq (ec rfl (.inr rfl) rfl hb hbl)
noncomputable def Da:Code:=aT Tryz.f29
theorem tp (l:List aa) (h:ae) (hok:dZ 13 l=true) (hf:fu l.length 224=true) (hb:h.all (ai.belO (h.length+1))=true) (hbl:av (h.length+1) l=true) :
 aL cx 29 [.imm l] h (fun v h'=>v=.own h.length 0 l.length∧h'=h++[.arr 13 l 0]):=by
 refine eJ (cx:=cx) 8 h.length [.tmp 2] Tryz.func29 rfl rfl rfl rfl rfl zq ?_
 show wpA cx 8 h.length (at_ Da []) _ _ _
 refine wSt [0] [(0,.imm l)] h kq rfl ?_
 refine dN kq ?_
 refine fa kq (ch ?_)
 refine dQ 1 kq ?_
 refine e6 kq ?_
 refine ab ?_
 refine wSt [0,2] [(0,.imm l),(2,.full [])] h kq kq ?_
 refine dN kq ?_
 refine dN kq ?_
 refine fa kq (ch ?_)
 refine dQ 1 kq ?_
 refine lC (L:=(bif l.isEmpty then [true,false] else [false]).map fun b=>(.bool b,h)) kq kq kq kq kq ?_
 intro r hr
 obtain ⟨b,rfl,hb0⟩:=jk hr
 refine e6 kq ?_
 refine ab ?_
 refine wSt [0,2,4] [(0,.imm l),(2,.full []),(4,.bool b)] h kq kq ?_
 refine wIf kq b kq (fun e=>?_) (fun _=>?_)
 · have hl:=hb0 e
   subst hl
   refine dN kq ?_
   refine fa kq (ch ?_)
   refine dQ 1 kq ?_
   refine e6 kq ?_
   refine ab ?_
   refine wSt [2] [(2,.full [])] h kq kq ?_
   refine lU 2 13 dq rfl ?_
   exact cK kq (ec rfl (.inr rfl) rfl hb hbl)
 · refine lz kq ?_
   refine ab ?_
   refine wSt [0,2] [(0,.imm l),(2,.full [])] h kq kq ?_
   refine dN kq ?_
   refine fa kq (ch ?_)
   refine dQ 2 kq ?_
   refine kw (v:=.own h.length 0 l.length) (h':=h++[.arr 13 l 0]) kq kq (gX (P:=cx.P) (t:=26) (l:=l) (h0:=h) kq kq bW cz ⟨by decide,by decide,hok⟩ hf) ?_
   refine dQ 1 kq ?_
   refine e6 kq ?_
   refine ab ?_
   exact cK kq (ec rfl (.inr rfl) rfl hb hbl)
def eO (sz by':Nat):List aa→ae→Option (aa×ae)
 | [.imm l],h=>bif dZ sz l && fu l.length by' && h.all (ai.belO (h.length+1)) && av (h.length+1) l then some (.own h.length 0 l.length,h++[.arr sz l 0]) else none
 | _,_=>none
theorem dr {sz by':Nat} {args:List aa} {h:ae} {r:aa×ae} (hr:eO sz by' args h=some r) :
 ∃ l,args=[.imm l]∧dZ sz l=true∧fu l.length by'=true∧h.all (ai.belO (h.length+1))=true∧av (h.length+1) l=true∧r=(.own h.length 0 l.length,h++[.arr sz l 0]):=by
 unfold eO at hr
 split at hr
 · rename_i h' l
   cases hc:dZ sz l && fu l.length by' && h.all (ai.belO (h.length+1)) && av (h.length+1) l with
   | false=>rw [hc] at hr;simp at hr
   | true =>
    rw [hc] at hr
    simp only [cond_true,Option.some.injEq] at hr
    simp only [Bool.and_eq_true] at hc
    exact ⟨l,rfl,hc.1.1.1,hc.1.1.2,hc.1.2,hc.2,hr.symm⟩
 · simp at hr
def oa:pC:=fun f args h =>
 bif Nat.beq f 78 then eO 6 96 args h
 else bif Nat.beq f 79 then eO 1 16 args h
 else bif Nat.beq f 80 then eO 2 32 args h
 else bif Nat.beq f 55 then eO 7 104 args h
 else bif Nat.beq f 29 then eO 13 224 args h
 else none
def gx:iE:=fun f args h=>bif Nat.beq f 78 || Nat.beq f 79 || Nat.beq f 80 || Nat.beq f 55 || Nat.beq f 29 then pZ (fun _ _ _=>none) oa (fun _=>false) f args h else none
theorem si:pj cx oa:=by
 intro f args h r hr
 unfold oa at hr
 cases h0:Nat.beq f 78 with
 | true =>
  simp only [h0,cond_true,cond_false] at hr
  obtain ⟨l,rfl,q1,q2,q3,q4,rfl⟩:=dr hr
  rw [Nat.eq_of_beq_eq_true h0]
  exact sP l h q1 q2 q3 q4
 | false =>
 cases h1:Nat.beq f 79 with
 | true =>
  simp only [h0,h1,cond_true,cond_false] at hr
  obtain ⟨l,rfl,q1,q2,q3,q4,rfl⟩:=dr hr
  rw [Nat.eq_of_beq_eq_true h1]
  exact sK l h q1 q2 q3 q4
 | false =>
 cases h2:Nat.beq f 80 with
 | true =>
  simp only [h0,h1,h2,cond_true,cond_false] at hr
  obtain ⟨l,rfl,q1,q2,q3,q4,rfl⟩:=dr hr
  rw [Nat.eq_of_beq_eq_true h2]
  exact sU l h q1 q2 q3 q4
 | false =>
 cases h3:Nat.beq f 55 with
 | true =>
  simp only [h0,h1,h2,h3,cond_true,cond_false] at hr
  obtain ⟨l,rfl,q1,q2,q3,q4,rfl⟩:=dr hr
  rw [Nat.eq_of_beq_eq_true h3]
  exact xG l h q1 q2 q3 q4
 | false =>
 cases h4:Nat.beq f 29 with
 | true =>
  simp only [h0,h1,h2,h3,h4,cond_true,cond_false] at hr
  obtain ⟨l,rfl,q1,q2,q3,q4,rfl⟩:=dr hr
  rw [Nat.eq_of_beq_eq_true h4]
  exact tp l h q1 q2 q3 q4
 | false =>
 simp [h0,h1,h2,h3,h4] at hr
theorem yx:∀ f args h r,gx f args h=some r→fK cx f args h r.1 r.2.1 r.2.2:=by
 intro f args h r hr
 unfold gx at hr
 cases hc:Nat.beq f 78 || Nat.beq f 79 || Nat.beq f 80 || Nat.beq f 55 || Nat.beq f 29 with
 | false=>rw [hc] at hr;simp at hr
 | true =>
  rw [hc] at hr
  simp only [cond_true] at hr
  exact gN (raw:=fun _=>false) (gx:=fun _ _ _=>none) zq si f args h r hr
end Go.Proofs.YtcpklndelobigaaGreatDoor
