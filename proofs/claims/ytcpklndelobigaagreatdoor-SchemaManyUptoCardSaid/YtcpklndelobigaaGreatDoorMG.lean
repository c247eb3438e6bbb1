/- The law SchemaMany. Condition: the numbers are numbers. -/
import Derived.Test.YtcpklndelobigaaGreatDoorMF
set_option linter.all false
namespace Go.Proofs.YtcpklndelobigaaGreatDoor
open Go.Proofs.YtcpklndelobigaaGreatDoor.Abs
set_option maxRecDepth 20000
set_option maxHeartbeats 4000000
theorem bn {f:Nat} {args:List aa} {v:aa} (h:(pu cx.P cx.G oO xp 60 false f args []).map (fun r=>r.1.frz r.2)=some v) (hb:v.bel 0=true):ao cx f args v:=by
 cases hx:pu cx.P cx.G oO xp 60 false f args [] with
 | none=>rw [hx] at h;cases h
 | some r =>
  rw [hx] at h
  exact ff (br cxM bA b8 60 false f args [] r hx) (by rintro v' h' ⟨rfl,rfl⟩;exact Option.some.inj h) hb
def am (n:Nat):List UInt8:=bif Nat.blt n 10 then [UInt8.ofNat (48+n)] else [49,UInt8.ofNat (38+n)]
def aV (i:Nat):List UInt8:=[116]++am i
def mny (n:Int):Nat:=(dO n 13).toNat
def sf:Ty:=.mk 0 [] 0 [] []
def v6:Ty:=.mk 4 [] 0 [] []
def BU:Ex:=.mk 2 [] 1 [] [] [] [] 0 0
def mnC (b:Bool):List Co:=[⟨[105,100],sf⟩,⟨[116,111],bif b then v6 else sf⟩]
def mnR (n:Int) (l:List Int) (i:Nat):List Rf:=if aJ l i ((2 * mny n:Nat):Int)<((mny n:Nat):Int) then [⟨[116,111],aV (aJ l i ((2 * mny n:Nat):Int)).toNat⟩] else []
def mnT (n:Int) (l:List Int) (i:Nat):Tb:=⟨aV i,mnC (decide (aJ l (i+1) 7=0)),[[105,100]],mnR n l i,BU⟩
def mnD (n:Int) (l:List Int) (i:Nat):Dc:=⟨1,aV i,Sm.zero,mnT n l i,0,0,0⟩
def mnL (n:Int) (l:List Int) (m:Nat):List Dc:=(List.range m).map (mnD n l)
theorem tk (n:Int) (l:List Int) (m:Nat):mnL n l (m+1)=mnL n l m++[mnD n l m]:=by simp [mnL,List.range_succ]
theorem ga (n:Int) (l:List Int) (m:Nat):(mnL n l m).length=m:=by simp [mnL]
theorem w0 (n:Int) (l:List Int) {m j:Nat} (h:j<m):(mnL n l m).getD j Dc.zero=mnD n l j:=by
 rw [bK _ _ _ (by rw [ga];exact h)];simp [mnL]
theorem oc (n:Int):dO n 13=((mny n:Nat):Int)∧mny n<13:=by
 have:=mh n 13 dq
 unfold mny;omega
theorem wj (n:Int) (hn:-9223372036854775808≤n∧n≤9223372036854775807):ao cx 13 [.int .i64 n,.int .i64 13] (.int .i64 ((mny n:Nat):Int)):=by
 have:=kz n 13 hn dq
 rwa [(oc n).1] at this
def cD (w:List UInt8):Bool:=!(w==[116,111])
theorem u6:∀ j,j<13→cD (aV j)=true:=by decide
theorem nm (n:Nat):(am n).length≤2:=by unfold am;cases Nat.blt n 10 <;> simp
def db (t:Ty):Bool:=t.kind==0
def dr (_:Ex):Int:=0
theorem rP:ao cx 14 [.int .i64 0] (.str [48]):=bn kq rfl
theorem ro:ao cx 14 [.int .i64 1] (.str [49]):=bn kq rfl
theorem rC:ao cx 14 [.int .i64 2] (.str [50]):=bn kq rfl
theorem rq:ao cx 14 [.int .i64 3] (.str [51]):=bn kq rfl
theorem sk:ao cx 14 [.int .i64 4] (.str [52]):=bn kq rfl
theorem rR:ao cx 14 [.int .i64 5] (.str [53]):=bn kq rfl
theorem rU:ao cx 14 [.int .i64 6] (.str [54]):=bn kq rfl
theorem rm:ao cx 14 [.int .i64 7] (.str [55]):=bn kq rfl
theorem rl:ao cx 14 [.int .i64 8] (.str [56]):=bn kq rfl
theorem rp:ao cx 14 [.int .i64 9] (.str [57]):=bn kq rfl
theorem pM:ao cx 14 [.int .i64 10] (.str [49,48]):=bn kq rfl
theorem pF:ao cx 14 [.int .i64 11] (.str [49,49]):=bn kq rfl
theorem pG:ao cx 14 [.int .i64 12] (.str [49,50]):=bn kq rfl
theorem nh:∀ (j:Nat),j<13→ao cx 14 [.int .i64 ((j:Nat):Int)] (.str (am j))
 | 0,_=>rP
 | 1,_=>ro
 | 2,_=>rC
 | 3,_=>rq
 | 4,_=>sk
 | 5,_=>rR
 | 6,_=>rU
 | 7,_=>rm
 | 8,_=>rl
 | 9,_=>rp
 | 10,_=>pM
 | 11,_=>pF
 | 12,_=>pG
 | j+13,h=>absurd h oq
theorem zM:ao cx 70 [.int .i64 2,.str [116,48]] (.bool true):=bn kq rfl
theorem zO:ao cx 70 [.int .i64 2,.str [116,49]] (.bool true):=bn kq rfl
theorem z8:ao cx 70 [.int .i64 2,.str [116,50]] (.bool true):=bn kq rfl
theorem zv:ao cx 70 [.int .i64 2,.str [116,51]] (.bool true):=bn kq rfl
theorem zc:ao cx 70 [.int .i64 2,.str [116,52]] (.bool true):=bn kq rfl
theorem zI:ao cx 70 [.int .i64 2,.str [116,53]] (.bool true):=bn kq rfl
theorem y6:ao cx 70 [.int .i64 2,.str [116,54]] (.bool true):=bn kq rfl
theorem zx:ao cx 70 [.int .i64 2,.str [116,55]] (.bool true):=bn kq rfl
theorem yX:ao cx 70 [.int .i64 2,.str [116,56]] (.bool true):=bn kq rfl
theorem zT:ao cx 70 [.int .i64 2,.str [116,57]] (.bool true):=bn kq rfl
theorem xT:ao cx 70 [.int .i64 2,.str [116,49,48]] (.bool true):=bn kq rfl
theorem xH:ao cx 70 [.int .i64 2,.str [116,49,49]] (.bool true):=bn kq rfl
theorem xo:ao cx 70 [.int .i64 2,.str [116,49,50]] (.bool true):=bn kq rfl
theorem AH:∀ (j:Nat),j<13→ao cx 70 [.int .i64 2,.str (aV j)] (.bool true)
 | 0,_=>zM
 | 1,_=>zO
 | 2,_=>z8
 | 3,_=>zv
 | 4,_=>zc
 | 5,_=>zI
 | 6,_=>y6
 | 7,_=>zx
 | 8,_=>yX
 | 9,_=>zT
 | 10,_=>xT
 | 11,_=>xH
 | 12,_=>xo
 | j+13,h=>absurd h oq
theorem Am:ao cx 89 [.str [116,48]] (.bool true):=bn kq rfl
theorem zh:ao cx 89 [.str [116,49]] (.bool true):=bn kq rfl
theorem Ag:ao cx 89 [.str [116,50]] (.bool true):=bn kq rfl
theorem zl:ao cx 89 [.str [116,51]] (.bool true):=bn kq rfl
theorem zp:ao cx 89 [.str [116,52]] (.bool true):=bn kq rfl
theorem Ap:ao cx 89 [.str [116,53]] (.bool true):=bn kq rfl
theorem Ak:ao cx 89 [.str [116,54]] (.bool true):=bn kq rfl
theorem yY:ao cx 89 [.str [116,55]] (.bool true):=bn kq rfl
theorem zX:ao cx 89 [.str [116,56]] (.bool true):=bn kq rfl
theorem zH:ao cx 89 [.str [116,57]] (.bool true):=bn kq rfl
theorem yn:ao cx 89 [.str [116,49,48]] (.bool true):=bn kq rfl
theorem yo:ao cx 89 [.str [116,49,49]] (.bool true):=bn kq rfl
theorem xt:ao cx 89 [.str [116,49,50]] (.bool true):=bn kq rfl
theorem AI:∀ (j:Nat),j<13→ao cx 89 [.str (aV j)] (.bool true)
 | 0,_=>Am
 | 1,_=>zh
 | 2,_=>Ag
 | 3,_=>zl
 | 4,_=>zp
 | 5,_=>Ap
 | 6,_=>Ak
 | 7,_=>yY
 | 8,_=>zX
 | 9,_=>zH
 | 10,_=>yn
 | 11,_=>yo
 | 12,_=>xt
 | j+13,h=>absurd h oq
theorem xS:ao cx 70 [.int .i64 2,.str [105,100]] (.bool (cD [105,100])):=bn kq rfl
theorem xL:ao cx 89 [.str [105,100]] (.bool (cD [105,100])):=bn kq rfl
theorem sn:ao cx 70 [.int .i64 2,.str [116,111]] (.bool (cD [116,111])):=bn kq rfl
theorem th:ao cx 89 [.str [116,111]] (.bool (cD [116,111])):=bn kq rfl
theorem sQ:ao cx 136 [.imm [],.agg [.int .i64 0,.str [],.int .i64 0,.imm [],.imm []]] (.bool true):=bn kq rfl
theorem xZ:ao cx 136 [.imm [],.agg [.int .i64 4,.str [],.int .i64 0,.imm [],.imm []]] (.bool false):=bn kq rfl
theorem qb:ao cx 92 [.imm [],.agg [.int .i64 0,.str [],.int .i64 0,.imm [],.imm []]] (.bool true):=bn kq rfl
theorem vC:ao cx 92 [.imm [],.agg [.int .i64 4,.str [],.int .i64 0,.imm [],.imm []]] (.bool false):=bn kq rfl
theorem xJ:ao cx 77 [.agg [.int .i64 2,.str [],.int .i64 1,.str [],.imm [],.imm [],.imm [],.int .i64 0,.int .i64 0]] (.int .i64 0):=bn kq rfl
theorem vn:ao cx 90 [.agg [.int .i64 2,.str [],.int .i64 1,.str [],.imm [],.imm [],.imm [],.int .i64 0,.int .i64 0]] (.int .i64 0):=bn kq rfl
theorem uy:ao cx 81 [.agg [.int .i64 2,.str [],.int .i64 1,.str [],.imm [],.imm [],.imm [],.int .i64 0,.int .i64 0]] (.agg [.int .i64 2,.str [],.int .i64 1,.str [],.imm [],.imm [],.imm [],.int .i64 0,.int .i64 0]):=bn kq rfl
theorem u4 (j:Nat):(aV j).length≤3:=by
 have:=nm j
 unfold aV;simp;omega
theorem yy {b:Bool} {c:Co} (h:c∈mnC b):c.type=sf∨c.type=v6:=by
 simp only [mnC,List.mem_cons,List.not_mem_nil,or_false] at h
 rcases h with rfl|rfl
 · exact .inl rfl
 · cases b
   · exact .inl rfl
   · exact .inr rfl
theorem oi (n:Int) (l:List Int) {j i:Nat} (hi:i<13):(mdX (mnD n l j) i).ok:=by
 refine ⟨Nat.lt_of_le_of_lt (u4 j) dq,⟨by show -1000000000000≤10 * ((i:Nat):Int)+6;omega,by show 10 * ((i:Nat):Int)+6≤1000000000000;omega⟩,⟨by show 2≤100;decide,by show 1≤100;decide,?_,?_⟩⟩
 · show (mnR n l j).length≤100
   unfold mnR;split <;> simp
 · intro c hc
   rcases yy hc with e|e <;> rw [e] <;> decide
theorem jo {P:Co→Prop} (b:Bool) (h0:P ⟨[105,100],sf⟩) (h1:P ⟨[116,111],v6⟩) (h2:P ⟨[116,111],sf⟩) (q:Nat) (hq:q<(mnC b).length):P ((mnC b).getD q Co.zero):=by
 match q,hq with
 | 0,_=>exact h0
 | 1,_=>cases b;exact h2;exact h1
 | q+2,h=>exact absurd h (by cases b <;> simp [mnC])
theorem uA (n:Int) (l:List Int) {j i:Nat} (hj:j<13) (hi:i<13):B2 [] cD db dr (mdX (mnD n l j) i) :=
 ⟨oi n l hi,fun q hq=>jo (P:=fun c=>ao cx 70 [.int .i64 2,.str c.name] (.bool (cD c.name))) _ xS sn sn q hq,
  fun q hq=>jo (P:=fun c=>ao cx 136 [.imm (([]:List Sm).map Sm.v),c.type.v] (.bool (db c.type))) _ sQ xZ sQ q hq,by have:=AH j hj;rwa [← u6 j hj] at this,xJ,uy⟩
theorem q8 (n:Int) (l:List Int) {j i:Nat} (hj:j<13) (hi:i<13):sK [] cD db dr (mdX (mnD n l j) i) :=
 ⟨oi n l hi,fun q hq=>jo (P:=fun c=>ao cx 89 [.str c.name] (.bool (cD c.name))) _ xL th th q hq,
  fun q hq=>jo (P:=fun c=>ao cx 92 [.imm (([]:List Sm).map Sm.v),c.type.v] (.bool (db c.type))) _ qb vC qb q hq,by have:=AI j hj;rwa [← u6 j hj] at this,vn⟩
abbrev msM (n:Int) (l:List Int):List Md:=nF (mnL n l (mny n)) l
theorem k6 (n:Int) (l:List Int) (i:Nat) (hi:i<(msM n l).length) (k:Nat) (hk:k<((msM n l).getD i Md.zero).decls.length):∃ j q,j<13∧q<13∧dcl (msM n l) i k=mdX (mnD n l j) q:=by
 have hm:=cX ((msM n l).getD i Md.zero).decls Dc.zero k hk
 have hor:((msM n l).getD i Md.zero).decls.getD k Dc.zero∈(mdS (mnL n l (mny n)) l (mnL n l (mny n)).length).1∨((msM n l).getD i Md.zero).decls.getD k Dc.zero∈(mdS (mnL n l (mny n)) l (mnL n l (mny n)).length).2:=by
  match i,hi with
  | 0,_=>exact .inl hm
  | 1,_=>exact .inr hm
  | i+2,h=>exact absurd h (by simp [msM,nF])
 obtain ⟨j,h1,h2⟩:=sI _ _ _ _ hor
 rw [ga] at h1
 rw [w0 n l h1] at h2
 have:=(oc n).2
 exact ⟨j,j,by omega,by omega,h2⟩
theorem dA (n:Int) (l:List Int):gY [] cD db dr (msM n l):=by
 refine ⟨Nat.le_refl _,fun i=>?_,fun i hi k hk=>?_⟩
 · have h:=om (mnL n l (mny n)) l (mnL n l (mny n)).length
   rw [ga] at h
   have h13:=(oc n).2
   match i with
   | 0=>show (mdS (mnL n l (mny n)) l (mnL n l (mny n)).length).1.length≤40;rw [ga];omega
   | 1=>show (mdS (mnL n l (mny n)) l (mnL n l (mny n)).length).2.length≤40;rw [ga];omega
   | i+2=>show (0:Nat)≤40;decide
 · obtain ⟨j,q,h1,h2,h3⟩:=k6 n l i hi k hk
   have h3':((msM n l).getD i Md.zero).decls.getD k Dc.zero=mdX (mnD n l j) q:=h3
   rw [h3'];exact uA n l h1 h2
theorem qI (n:Int) (l:List Int):s8 [] cD db dr (msM n l):=by
 refine ⟨fun i hi k hk=>?_⟩
 obtain ⟨j,q,h1,h2,h3⟩:=k6 n l i hi k hk
 have h3':((msM n l).getD i Md.zero).decls.getD k Dc.zero=mdX (mnD n l j) q:=h3
 rw [h3'];exact q8 n l h1 h2
theorem nv (n:Int) (l:List Int):∀ i,i<(msM n l).length→∀ k,k<((msM n l).getD i Md.zero).decls.length→(dcl (msM n l) i k).kind=1:=by
 intro i hi k hk
 obtain ⟨j,q,h1,h2,h3⟩:=k6 n l i hi k hk
 rw [h3];rfl
theorem w8 (n:Int) (l:List Int):(cf cD db dr (msM n l) []).sm:=by
 refine x4 dq (fun x hx=>by cases hx) fun i hi k hk=>?_
 obtain ⟨j,q,h1,h2,h3⟩:=k6 n l i hi k hk
 rw [h3]
 have ho:=(oi n l (j:=j) h2).t
 exact ⟨Nat.lt_of_le_of_lt ho.c dq,fun c hc=>ho.z c hc,Nat.lt_of_le_of_lt ho.k dq,Nat.lt_of_le_of_lt ho.r dq,by show BU.sz<100000000;decide⟩
theorem uE (n:Int) (l:List Int):ao cx 7 [.imm ((msM n l).map Md.v)] (.tup [(cf cD db dr (msM n l) []).v,.imm ((stI cD db dr (msM n l) (msM n l).length).bp.2.map Pb.v)]) :=
 uo cD db dr [] (msM n l) (dA n l) (uS (msM n l) (dA n l).n (dA n l).m (nv n l))
theorem rJ (n:Int) (l:List Int):ao cx 8 [.imm ((msM n l).map Md.v)] (.tup [(cf cD db dr (msM n l) []).v,.imm ((stI cD db dr (msM n l) (msM n l).length).bp.2.map Pb.v)]):=by
 have:=si cD db dr [] (msM n l) (dA n l) (qI n l) (rG (msM n l) (dA n l).n (dA n l).m (nv n l))
 rw [(mM (sums:=([]:List Sm))).1,(mM (sums:=([]:List Sm))).2] at this
 exact this
theorem w9 (n:Int) (l:List Int):ao cx 10 [.imm ((stI cD db dr (msM n l) (msM n l).length).bp.2.map Pb.v),.imm ((stI cD db dr (msM n l) (msM n l).length).bp.2.map Pb.v)] (.bool true):=by
 refine ra _ ?_ fun p hp=>Nat.lt_of_le_of_lt (yS _ p hp) dq
 have h1:=ol (dA n l) (msM n l).length (Nat.le_refl _)
 have h2:=(dA n l).n
 omega
theorem uY (k:Int) (h0:0≤k) (h1:k<13):ao cx 14 [.int .i64 k] (.str (am k.toNat)):=by
 have:=nh k.toNat oq
 rwa [show ((k.toNat:Nat):Int)=k by omega] at this
theorem w5 (n:Int) (l:List Int):ao cx 9 [(cf cD db dr (msM n l) []).v,(cf cD db dr (msM n l) []).v] (.bool true):=by
 have:=pd (cf cD db dr (msM n l) []) (cf cD db dr (msM n l) []) (w8 n l)
 rwa [Sc.beq_refl] at this
noncomputable def c4:Code:=aU Tryz.f4
theorem iK {p:Prop} (h:p:=by simp [Ty.v,Ex.v,Ct.v,Co.v,Rf.v,Sm.v,Tb.v_cs,Sc.v,Md.v,Pb.v,Ls.v,-List.map_take,-List.map_drop,-List.map_append]):p:=h
theorem l3 {p:Prop} (h:p:=by simp [fC,aO,aa.owns,Ty.v,Ex.v,Ct.v,Co.v,Rf.v,Sm.v,Tb.v_cs,Sc.v,Md.v,Pb.v,Ls.v,-List.map_take,-List.map_drop,-List.map_append]):p:=h
theorem xB {p:Prop} (h:p:=by simp [j9,aZ,aa.frz,List.map_append,Dc.v,Dc.cs,Ex.kind,Ex.name,Ex.n,Ex.s,Ex.names,Ex.binds,Ex.kids,Ex.pos,Ex.fin,Ty.v,Ex.v,Ct.v,Co.v,Rf.v,Sm.v,Tb.v_cs,Sc.v,Md.v,Pb.v,Ls.v,-List.map_take,-List.map_drop]):p:=h
theorem ir {p:Prop} (h:p:=by simp [List.set,aa.frz,aZ]):p:=h
theorem iu {p:Prop} (h:p:=by simp [aa.owns,aO]):p:=h
theorem xR {p:Prop} (h:p:=by simp [List.set,aa.frz,aZ,mnC,Co.v,sf,v6,Ty.kind,Ty.name,Ty.n,Ty.names,Ty.kids, *]):p:=h
theorem w4 {p:Prop} (h:p:=by simp [aa.owns,aO,mnC,Co.v,sf,v6,Ty.kind,Ty.name,Ty.n,Ty.names,Ty.kids, *]):p:=h
theorem Cm {p:Prop} (h:p:=by have h1:=hdl i;have h2:=hdl (aJ l i (((2 * mny n:Nat):Int))).toNat;simp only [List.length_append,List.length_cons,List.length_nil];omega):p:=h
theorem ym {p:Prop} (h:p:=by simp [List.set,aa.frz,aZ,Rf.v,aV, *]):p:=h
theorem x9 {p:Prop} (h:p:=by simp [aa.owns,aO,Rf.v,aV, *]):p:=h
theorem A8 {p:Prop} (h:p:=by rw [tk,mnD,mnT,mnR,if_pos aq,decide_eq_false aq] <;> (show _=_;kernel_rfl)):p:=h
theorem B7 {p:Prop} (h:p:=by rw [tk,mnD,mnT,mnR,if_neg aq,decide_eq_false aq] <;> (show _=_;kernel_rfl)):p:=h
theorem BH {p:Prop} (h:p:=by rw [tk,mnD,mnT,mnR,if_pos aq,decide_eq_true aq] <;> (show _=_;kernel_rfl)):p:=h
theorem Bw {p:Prop} (h:p:=by rw [tk,mnD,mnT,mnR,if_neg aq,decide_eq_true aq] <;> (show _=_;kernel_rfl)):p:=h
theorem qg {p:Prop} (h:p:=by simp;omega):p:=h
theorem tZ (n:Int) (l:List Int) (hnn:-9223372036854775808≤n∧n≤9223372036854775807) (hl:my l):ao cx 4 [.int .i64 (n),.imm (l.map (aa.int .i64))] (.bool true):=by
 have hm13:=(oc n).2
 have hdl:=fun k=>nm k
 refine aC (cx:=cx) 87 0 [(ResultVar.tmp 4)] Tryz.func4 rfl rfl rfl rfl rfl zq ?_
 show wpA cx 87 0 (at_ c4 []) _ _ _
 refine qZ [(0,.int .i64 (n)),(1,.imm (l.map (aa.int .i64)))] [] ?_ ?_
 refine qU 1 [(0,.int .i64 (n)),(1,.imm (l.map (aa.int .i64)))] ?_ ?_
 refine qU 1 [(0,.int .i64 (n)),(1,.imm (l.map (aa.int .i64))),(5,.full [])] ?_ ?_
 refine lC 5 37 dq kq ?_
 refine qZ [(0,.int .i64 (n)),(1,.imm (l.map (aa.int .i64))),(5,.own 0 0 0)] [.arr 37 (([]:List (Dc)).map Dc.v) 0] ?_ ?_
 refine qV 1 ?_ ?_
 refine qc [.int .i64 (n),.int .i64 13] (wj (n) hnn) ?_ ?_
 refine qR 1 [(1,.imm (l.map (aa.int .i64))),(5,.own 0 0 0),(6,nI (mny (n)))] [.arr 37 (([]:List (Dc)).map Dc.v) 0] ?_ ?_
 refine az ?_ ?_
 refine qU 1 [(1,.imm (l.map (aa.int .i64))),(5,.own 0 0 0),(6,nI (mny (n))),(7,.int .i64 0)] ?_ ?_
 refine qB 0 ?_ ?_ ?_
 refine bm (σ:=Nat) (fun i=>[(1,.imm (l.map (aa.int .i64))),(5,.own 0 0 (mnL n l i).length),(6,.int .i64 ((mny (n):Nat):Int)),(7,.int .i64 ((i:Nat):Int))]) (fun i=>[.arr 37 ((mnL n l i).map Dc.v) 0]) (fun i=>i≤mny n) (fun i=>mny n - i) 0 kq (by exact Nat.zero_le _) ⟨⟨kq,(Eq.trans (b:=.own 0 0 0) kq kq),kq,kq,trivial⟩,by simp [aG,aa.bel],by simp,(Eq.trans (b:=[.arr 37 (([]:List (Dc)).map Dc.v) 0]) kq kq),by simp [ai.belO,av,aB,aa.bel,Ty.v,Ex.v,Ct.v,Co.v,Rf.v,Sm.v,Tb.v_cs,Sc.v,Md.v,Pb.v,Ls.v,-List.map_take,-List.map_drop,-List.map_append]⟩ ?_
 rintro i hi
 have hml:=ga n l i
 refine az ?_ ?_
 refine qW 3 [(1,.imm (l.map (aa.int .i64))),(5,.own 0 0 (mnL n l i).length),(6,nI (mny (n))),(7,nI i),(20,.bool (decide (((i:Nat):Int)<((mny (n):Nat):Int))))] [.arr 37 ((mnL n l i).map Dc.v) 0] ?_ ?_
 by_cases hb1:((i:Nat):Int)<((mny (n):Nat):Int)
 refine qt (decide_eq_true hb1) ?_ ?_
 refine qK ?_ ?_
 refine qz [(1,.imm (l.map (aa.int .i64))),(5,.own 0 0 (mnL n l i).length),(6,nI (mny (n))),(7,nI i)] ?_ ?_
 refine az ?_ ?_
 refine qB 1 ?_ ?_ ?_
 refine qV 1 ?_ ?_
 refine qc [.int .i64 ((i:Nat):Int)] (nh i oq) ?_ ?_
 refine qy (yV (a:=[116]) (b:=(am i)) kq Cm) ?_ ?_ ?_
 refine qR 1 [(1,.imm (l.map (aa.int .i64))),(5,.own 0 0 (mnL n l i).length),(6,nI (mny (n))),(7,nI i),(8,.str ([116]++(am i)))] [.arr 37 ((mnL n l i).map Dc.v) 0] ?_ ?_
 refine qV 3 ?_ ?_
 refine A9 (r:=(.full [.agg [.str [105,100],.int .i64 0,.str [],.int .i64 0,.full [],.full []],.agg [.str [116,111],.int .i64 0,.str [],.int .i64 0,.full [],.full []]],[.arr 37 ((mnL n l i).map Dc.v) 0])) (q:=(.own 1 0 2,[.arr 37 ((mnL n l i).map Dc.v) 0,.arr 6 [.agg [.str [105,100],.int .i64 0,.str [],.int .i64 0,.full [],.full []],.agg [.str [116,111],.int .i64 0,.str [],.int .i64 0,.full [],.full []]] 0])) kq kq kq kq ?_
 refine qR 5 [(1,.imm (l.map (aa.int .i64))),(5,.own 0 0 (mnL n l i).length),(6,nI (mny (n))),(7,nI i),(8,.str ([116]++(am i))),(9,.ptr 2 0)] [.arr 37 ((mnL n l i).map Dc.v) 0,.arr 6 [.agg [.str [105,100],.int .i64 0,.str [],.int .i64 0,.full [],.full []],.agg [.str [116,111],.int .i64 0,.str [],.int .i64 0,.full [],.full []]] 0,.box [.str ([116]++(am i)),.own 1 0 2,.full [.str [105,100]],.full [],.int .i64 2,.str [],.int .i64 1,.str [],.full [],.full [],.full [],.int .i64 0,.int .i64 0]] ?_ ?_
 refine qV 3 ?_ ?_
 refine qy (sD (a:=2) (b:=((mny (n):Nat):Int)) kq oq oq) ?_ ?_ ?_
 refine bj (args:=[.imm (l.map (aa.int .i64)),.int .i64 ((i:Nat):Int),.int .i64 (((2 * mny (n)):Nat):Int)]) kq kq kq kq (d4 l i ((((2 * mny (n)):Nat):Int)) hl oq) iK iK l3 ?_
 have hv2:=o8 l i ((((2 * mny (n)):Nat):Int)) oq
 refine qR 1 [(1,.imm (l.map (aa.int .i64))),(5,.own 0 0 (mnL n l i).length),(6,nI (mny (n))),(7,nI i),(8,.str ([116]++(am i))),(9,.ptr 2 0),(10,.int .i64 (aJ l i ((((2 * mny (n)):Nat):Int))))] [.arr 37 ((mnL n l i).map Dc.v) 0,.arr 6 [.agg [.str [105,100],.int .i64 0,.str [],.int .i64 0,.full [],.full []],.agg [.str [116,111],.int .i64 0,.str [],.int .i64 0,.full [],.full []]] 0,.box [.str ([116]++(am i)),.own 1 0 2,.full [.str [105,100]],.full [],.int .i64 2,.str [],.int .i64 1,.str [],.full [],.full [],.full [],.int .i64 0,.int .i64 0]] ?_ ?_
 refine az ?_ ?_
 refine qU 3 [(1,.imm (l.map (aa.int .i64))),(5,.own 0 0 (mnL n l i).length),(6,nI (mny (n))),(7,nI i),(8,.str ([116]++(am i))),(9,.ptr 2 0),(10,.int .i64 (aJ l i ((((2 * mny (n)):Nat):Int)))),(40,.bool (decide ((aJ l i ((((2 * mny (n)):Nat):Int)))<((mny (n):Nat):Int))))] ?_ ?_
 by_cases hb3:(aJ l i ((((2 * mny (n)):Nat):Int)))<((mny (n):Nat):Int)
 refine qt (decide_eq_true hb3) ?_ ?_
 refine qo ?_ ?_
 refine qr 1 ?_ ?_
 refine qc [.int .i64 (aJ l i ((((2 * mny (n)):Nat):Int)))] (uY (aJ l i ((((2 * mny (n)):Nat):Int))) oq oq) ?_ ?_
 refine qy (yV (a:=[116]) (b:=(am ((aJ l i ((((2 * mny (n)):Nat):Int)))).toNat)) kq Cm) ?_ ?_ ?_
 refine qR 4 [(1,.imm (l.map (aa.int .i64))),(5,.own 0 0 (mnL n l i).length),(6,nI (mny (n))),(7,nI i),(8,.str ([116]++(am i))),(9,.ptr 2 0)] [.arr 37 ((mnL n l i).map Dc.v) 0,.arr 6 [.agg [.str [105,100],.int .i64 0,.str [],.int .i64 0,.full [],.full []],.agg [.str [116,111],.int .i64 0,.str [],.int .i64 0,.full [],.full []]] 0,.box [.str ([116]++(am i)),.own 1 0 2,.full [.str [105,100]],.full [.agg [.str [116,111],.str ([116]++(am ((aJ l i ((((2 * mny (n)):Nat):Int)))).toNat))]],.int .i64 2,.str [],.int .i64 1,.str [],.full [],.full [],.full [],.int .i64 0,.int .i64 0]] ?_ ?_
 refine az ?_ ?_
 refine qV 2 ?_ ?_
 refine qy (aI (a:=((i:Nat):Int)) (b:=1) kq oq oq) ?_ ?_ ?_
 refine bj (args:=[.imm (l.map (aa.int .i64)),.int .i64 (((i+1):Nat):Int),.int .i64 7]) kq kq kq kq (d4 l (i+1) 7 hl dq) iK iK l3 ?_
 refine qR 1 [(1,.imm (l.map (aa.int .i64))),(5,.own 0 0 (mnL n l i).length),(6,nI (mny (n))),(7,nI i),(8,.str ([116]++(am i))),(9,.ptr 2 0),(51,.bool ((aJ l (i+1) 7)==0))] [.arr 37 ((mnL n l i).map Dc.v) 0,.arr 6 [.agg [.str [105,100],.int .i64 0,.str [],.int .i64 0,.full [],.full []],.agg [.str [116,111],.int .i64 0,.str [],.int .i64 0,.full [],.full []]] 0,.box [.str ([116]++(am i)),.own 1 0 2,.full [.str [105,100]],.full [.agg [.str [116,111],.str ([116]++(am ((aJ l i ((((2 * mny (n)):Nat):Int)))).toNat))]],.int .i64 2,.str [],.int .i64 1,.str [],.full [],.full [],.full [],.int .i64 0,.int .i64 0]] ?_ ?_
 by_cases hb4:(aJ l (i+1) 7)=0
 refine qt (beq_iff_eq.2 hb4) ?_ ?_
 refine qo ?_ ?_
 refine qR 6 [(1,.imm (l.map (aa.int .i64))),(5,.own 0 0 (mnL n l i).length),(6,nI (mny (n))),(7,nI i),(8,.str ([116]++(am i))),(9,.ptr 2 0)] [.arr 37 ((mnL n l i).map Dc.v) 0,.arr 6 [.agg [.str [105,100],.int .i64 0,.str [],.int .i64 0,.full [],.full []],.agg [.str [116,111],.int .i64 4,.str [],.int .i64 0,.full [],.full []]] 0,.box [.str ([116]++(am i)),.own 1 0 2,.full [.str [105,100]],.full [.agg [.str [116,111],.str ([116]++(am ((aJ l i ((((2 * mny (n)):Nat):Int)))).toNat))]],.int .i64 2,.str [],.int .i64 1,.str [],.full [],.full [],.full [],.int .i64 0,.int .i64 0]] ?_ ?_
 refine tb 2 1 1 (cs:=[.str ([116]++(am i)),.own 1 0 2,.full [.str [105,100]],.full [.agg [.str [116,111],.str ([116]++(am ((aJ l i ((((2 * mny (n)):Nat):Int)))).toNat))]],.int .i64 2,.str [],.int .i64 1,.str [],.full [],.full [],.full [],.int .i64 0,.int .i64 0]) (es:=[.agg [.str [105,100],.int .i64 0,.str [],.int .i64 0,.full [],.full []],.agg [.str [116,111],.int .i64 4,.str [],.int .i64 0,.full [],.full []]]) (off:=0) (len:=2) (sz:=6) (fr:=0) [.str ([116]++(am i)),.imm [.agg [.str [105,100],.int .i64 0,.str [],.int .i64 0,.full [],.full []],.agg [.str [116,111],.int .i64 4,.str [],.int .i64 0,.full [],.full []]],.full [.str [105,100]],.full [.agg [.str [116,111],.str ([116]++(am ((aJ l i ((((2 * mny (n)):Nat):Int)))).toNat))]],.int .i64 2,.str [],.int .i64 1,.str [],.full [],.full [],.full [],.int .i64 0,.int .i64 0] [.agg [.str [105,100],.int .i64 0,.str [],.int .i64 0,.full [],.full []],.agg [.str [116,111],.int .i64 4,.str [],.int .i64 0,.full [],.full []]] dq kq kq kq zq kq kq ?_
 refine cc 2 1 (cs:=[.str ([116]++(am i)),.imm [.agg [.str [105,100],.int .i64 0,.str [],.int .i64 0,.full [],.full []],.agg [.str [116,111],.int .i64 4,.str [],.int .i64 0,.full [],.full []]],.full [.str [105,100]],.full [.agg [.str [116,111],.str ([116]++(am ((aJ l i ((((2 * mny (n)):Nat):Int)))).toNat))]],.int .i64 2,.str [],.int .i64 1,.str [],.full [],.full [],.full [],.int .i64 0,.int .i64 0]) (y:=.imm [.agg [.str [105,100],.int .i64 0,.str [],.int .i64 0,.full [],.full []],.agg [.str [116,111],.int .i64 4,.str [],.int .i64 0,.full [],.full []]]) [.str ([116]++(am i)),.imm ((mnC true).map Co.v),.full [.str [105,100]],.full [.agg [.str [116,111],.str ([116]++(am ((aJ l i ((((2 * mny (n)):Nat):Int)))).toNat))]],.int .i64 2,.str [],.int .i64 1,.str [],.full [],.full [],.full [],.int .i64 0,.int .i64 0] kq kq w4 xR ?_
 refine cc 2 2 (cs:=[.str ([116]++(am i)),.imm ((mnC true).map Co.v),.full [.str [105,100]],.full [.agg [.str [116,111],.str ([116]++(am ((aJ l i ((((2 * mny (n)):Nat):Int)))).toNat))]],.int .i64 2,.str [],.int .i64 1,.str [],.full [],.full [],.full [],.int .i64 0,.int .i64 0]) (y:=.full [.str [105,100]]) [.str ([116]++(am i)),.imm ((mnC true).map Co.v),.imm (([[105,100]]:List (List UInt8)).map aa.str),.full [.agg [.str [116,111],.str ([116]++(am ((aJ l i ((((2 * mny (n)):Nat):Int)))).toNat))]],.int .i64 2,.str [],.int .i64 1,.str [],.full [],.full [],.full [],.int .i64 0,.int .i64 0] kq kq iu ir ?_
 refine cc 2 3 (cs:=[.str ([116]++(am i)),.imm ((mnC true).map Co.v),.imm (([[105,100]]:List (List UInt8)).map aa.str),.full [.agg [.str [116,111],.str ([116]++(am ((aJ l i ((((2 * mny (n)):Nat):Int)))).toNat))]],.int .i64 2,.str [],.int .i64 1,.str [],.full [],.full [],.full [],.int .i64 0,.int .i64 0]) (y:=.full [.agg [.str [116,111],.str ([116]++(am ((aJ l i ((((2 * mny (n)):Nat):Int)))).toNat))]]) [.str ([116]++(am i)),.imm ((mnC true).map Co.v),.imm (([[105,100]]:List (List UInt8)).map aa.str),.imm (([⟨[116,111],aV (aJ l i (((2 * mny n:Nat):Int))).toNat⟩]:List Rf).map Rf.v),.int .i64 2,.str [],.int .i64 1,.str [],.full [],.full [],.full [],.int .i64 0,.int .i64 0] kq kq x9 ym ?_
 refine cc 2 8 (cs:=[.str ([116]++(am i)),.imm ((mnC true).map Co.v),.imm (([[105,100]]:List (List UInt8)).map aa.str),.imm (([⟨[116,111],aV (aJ l i (((2 * mny n:Nat):Int))).toNat⟩]:List Rf).map Rf.v),.int .i64 2,.str [],.int .i64 1,.str [],.full [],.full [],.full [],.int .i64 0,.int .i64 0]) (y:=.full []) [.str ([116]++(am i)),.imm ((mnC true).map Co.v),.imm (([[105,100]]:List (List UInt8)).map aa.str),.imm (([⟨[116,111],aV (aJ l i (((2 * mny n:Nat):Int))).toNat⟩]:List Rf).map Rf.v),.int .i64 2,.str [],.int .i64 1,.str [],.imm (([]:List (List UInt8)).map aa.str),.full [],.full [],.int .i64 0,.int .i64 0] kq kq iu ir ?_
 refine cc 2 9 (cs:=[.str ([116]++(am i)),.imm ((mnC true).map Co.v),.imm (([[105,100]]:List (List UInt8)).map aa.str),.imm (([⟨[116,111],aV (aJ l i (((2 * mny n:Nat):Int))).toNat⟩]:List Rf).map Rf.v),.int .i64 2,.str [],.int .i64 1,.str [],.imm (([]:List (List UInt8)).map aa.str),.full [],.full [],.int .i64 0,.int .i64 0]) (y:=.full []) [.str ([116]++(am i)),.imm ((mnC true).map Co.v),.imm (([[105,100]]:List (List UInt8)).map aa.str),.imm (([⟨[116,111],aV (aJ l i (((2 * mny n:Nat):Int))).toNat⟩]:List Rf).map Rf.v),.int .i64 2,.str [],.int .i64 1,.str [],.imm (([]:List (List UInt8)).map aa.str),.imm (([]:List (List UInt8)).map aa.str),.full [],.int .i64 0,.int .i64 0] kq kq iu ir ?_
 refine cc 2 10 (cs:=[.str ([116]++(am i)),.imm ((mnC true).map Co.v),.imm (([[105,100]]:List (List UInt8)).map aa.str),.imm (([⟨[116,111],aV (aJ l i (((2 * mny n:Nat):Int))).toNat⟩]:List Rf).map Rf.v),.int .i64 2,.str [],.int .i64 1,.str [],.imm (([]:List (List UInt8)).map aa.str),.imm (([]:List (List UInt8)).map aa.str),.full [],.int .i64 0,.int .i64 0]) (y:=.full []) [.str ([116]++(am i)),.imm ((mnC true).map Co.v),.imm (([[105,100]]:List (List UInt8)).map aa.str),.imm (([⟨[116,111],aV (aJ l i (((2 * mny n:Nat):Int))).toNat⟩]:List Rf).map Rf.v),.int .i64 2,.str [],.int .i64 1,.str [],.imm (([]:List (List UInt8)).map aa.str),.imm (([]:List (List UInt8)).map aa.str),.imm (([]:List Ex).map Ex.enc),.int .i64 0,.int .i64 0] kq kq iu ir ?_
 refine qZ [(1,.imm (l.map (aa.int .i64))),(5,.own 0 0 (mnL n l i).length),(6,nI (mny (n))),(7,nI i),(8,.str ([116]++(am i))),(9,.ptr 2 0)] [.arr 37 ((mnL n l i).map Dc.v) 0,.arr 6 [.agg [.str [105,100],.int .i64 0,.str [],.int .i64 0,.full [],.full []],.agg [.str [116,111],.int .i64 4,.str [],.int .i64 0,.full [],.full []]] 2,.box [.str ([116]++(am i)),.imm ((mnC true).map Co.v),.imm (([[105,100]]:List (List UInt8)).map aa.str),.imm (([⟨[116,111],aV (aJ l i (((2 * mny n:Nat):Int))).toNat⟩]:List Rf).map Rf.v),.int .i64 2,.str [],.int .i64 1,.str [],.imm (([]:List (List UInt8)).map aa.str),.imm (([]:List (List UInt8)).map aa.str),.imm (([]:List Ex).map Ex.enc),.int .i64 0,.int .i64 0]] ?_ ?_
 refine qo ?_ ?_
 refine qr 5 ?_ ?_
 refine qY (bL (o:=0) (len:=((mnL n l i).length)) (l:=(mnL n l i)) (xs:=[.agg [.int .i64 1,.str ([116]++(am i)),.str [],.full [],.str ([116]++(am i)),.imm ((mnC true).map Co.v),.imm (([[105,100]]:List (List UInt8)).map aa.str),.imm (([⟨[116,111],aV (aJ l i (((2 * mny n:Nat):Int))).toNat⟩]:List Rf).map Rf.v),.int .i64 2,.str [],.int .i64 1,.str [],.imm (([]:List (List UInt8)).map aa.str),.imm (([]:List (List UInt8)).map aa.str),.imm (([]:List Ex).map Ex.enc),.int .i64 0,.int .i64 0,.full [],.bool false,.int .i64 0,.str [],.int .i64 0,.full [],.full [],.int .i64 0,.str [],.int .i64 0,.str [],.full [],.full [],.full [],.int .i64 0,.int .i64 0,.full [],.int .i64 0,.int .i64 0,.int .i64 0]]) (enc:=Dc.v) (sz:=37) (fr:=0) (x:=(.full [.agg [.int .i64 1,.str ([116]++(am i)),.str [],.full [],.str ([116]++(am i)),.imm ((mnC true).map Co.v),.imm (([[105,100]]:List (List UInt8)).map aa.str),.imm (([⟨[116,111],aV (aJ l i (((2 * mny n:Nat):Int))).toNat⟩]:List Rf).map Rf.v),.int .i64 2,.str [],.int .i64 1,.str [],.imm (([]:List (List UInt8)).map aa.str),.imm (([]:List (List UInt8)).map aa.str),.imm (([]:List Ex).map Ex.enc),.int .i64 0,.int .i64 0,.full [],.bool false,.int .i64 0,.str [],.int .i64 0,.full [],.full [],.int .i64 0,.str [],.int .i64 0,.str [],.full [],.full [],.full [],.int .i64 0,.int .i64 0,.full [],.int .i64 0,.int .i64 0,.int .i64 0]])) kq dE i5 dE rfl kq rfl rfl kq ⟨by decide,by kernel_rfl⟩ kq qg qg) ?_ ?_ ?_
 refine qr 1 ?_ ?_
 refine qe ?_ ?_
 refine ah ?_
 refine ab ?_
 refine qZ [(1,.imm (l.map (aa.int .i64))),(5,.own 0 0 ((mnL n l i).length+1)),(6,nI (mny (n))),(7,nI i)] [.arr 37 ((mnL n l i).map Dc.v++[.agg [.int .i64 1,.str ([116]++(am i)),.str [],.full [],.str ([116]++(am i)),.imm ((mnC true).map Co.v),.imm (([[105,100]]:List (List UInt8)).map aa.str),.imm (([⟨[116,111],aV (aJ l i (((2 * mny n:Nat):Int))).toNat⟩]:List Rf).map Rf.v),.int .i64 2,.str [],.int .i64 1,.str [],.imm (([]:List (List UInt8)).map aa.str),.imm (([]:List (List UInt8)).map aa.str),.imm (([]:List Ex).map Ex.enc),.int .i64 0,.int .i64 0,.full [],.bool false,.int .i64 0,.str [],.int .i64 0,.full [],.full [],.int .i64 0,.str [],.int .i64 0,.str [],.full [],.full [],.full [],.int .i64 0,.int .i64 0,.full [],.int .i64 0,.int .i64 0,.int .i64 0]]) 0,.arr 6 [.agg [.str [105,100],.int .i64 0,.str [],.int .i64 0,.full [],.full []],.agg [.str [116,111],.int .i64 4,.str [],.int .i64 0,.full [],.full []]] 2,.box [.str ([116]++(am i)),.imm ((mnC true).map Co.v),.imm (([[105,100]]:List (List UInt8)).map aa.str),.imm (([⟨[116,111],aV (aJ l i (((2 * mny n:Nat):Int))).toNat⟩]:List Rf).map Rf.v),.int .i64 2,.str [],.int .i64 1,.str [],.imm (([]:List (List UInt8)).map aa.str),.imm (([]:List (List UInt8)).map aa.str),.imm (([]:List Ex).map Ex.enc),.int .i64 0,.int .i64 0]] ?_ ?_
 refine em 0 (sz:=37) (fr:=0) (es:=((mnL n l i).map Dc.v++[.agg [.int .i64 1,.str ([116]++(am i)),.str [],.full [],.str ([116]++(am i)),.imm ((mnC true).map Co.v),.imm (([[105,100]]:List (List UInt8)).map aa.str),.imm (([⟨[116,111],aV (aJ l i (((2 * mny n:Nat):Int))).toNat⟩]:List Rf).map Rf.v),.int .i64 2,.str [],.int .i64 1,.str [],.imm (([]:List (List UInt8)).map aa.str),.imm (([]:List (List UInt8)).map aa.str),.imm (([]:List Ex).map Ex.enc),.int .i64 0,.int .i64 0,.full [],.bool false,.int .i64 0,.str [],.int .i64 0,.full [],.full [],.int .i64 0,.str [],.int .i64 0,.str [],.full [],.full [],.full [],.int .i64 0,.int .i64 0,.full [],.int .i64 0,.int .i64 0,.int .i64 0]])) (((mnL n l i)++[(Dc.mk 1 ([116]++(am i)) (Sm.mk [] []) (Tb.mk ([116]++(am i)) (mnC true) ([[105,100]]:List (List UInt8)) ([⟨[116,111],aV (aJ l i (((2 * mny n:Nat):Int))).toNat⟩]:List Rf) (Ex.mk 2 [] 1 [] ([]:List (List UInt8)) ([]:List (List UInt8)) ([]:List Ex) 0 0)) 0 0 0)]).map Dc.v) kq l3 xB ?_
 refine fX 5 (.own 0 0 ((mnL n l i).length+1)) (.own 0 0 ((mnL n l i)++[(Dc.mk 1 ([116]++(am i)) (Sm.mk [] []) (Tb.mk ([116]++(am i)) (mnC true) ([[105,100]]:List (List UInt8)) ([⟨[116,111],aV (aJ l i (((2 * mny n:Nat):Int))).toNat⟩]:List Rf) (Ex.mk 2 [] 1 [] ([]:List (List UInt8)) ([]:List (List UInt8)) ([]:List Ex) 0 0)) 0 0 0)]).length) kq zq ?_
 refine qZ [(1,.imm (l.map (aa.int .i64))),(5,.own 0 0 ((mnL n l i)++[(Dc.mk 1 ([116]++(am i)) (Sm.mk [] []) (Tb.mk ([116]++(am i)) (mnC true) ([[105,100]]:List (List UInt8)) ([⟨[116,111],aV (aJ l i (((2 * mny n:Nat):Int))).toNat⟩]:List Rf) (Ex.mk 2 [] 1 [] ([]:List (List UInt8)) ([]:List (List UInt8)) ([]:List Ex) 0 0)) 0 0 0)]).length),(6,nI (mny (n))),(7,nI i)] [.arr 37 (((mnL n l i)++[(Dc.mk 1 ([116]++(am i)) (Sm.mk [] []) (Tb.mk ([116]++(am i)) (mnC true) ([[105,100]]:List (List UInt8)) ([⟨[116,111],aV (aJ l i (((2 * mny n:Nat):Int))).toNat⟩]:List Rf) (Ex.mk 2 [] 1 [] ([]:List (List UInt8)) ([]:List (List UInt8)) ([]:List Ex) 0 0)) 0 0 0)]).map Dc.v) 0,.arr 6 [.agg [.str [105,100],.int .i64 0,.str [],.int .i64 0,.full [],.full []],.agg [.str [116,111],.int .i64 4,.str [],.int .i64 0,.full [],.full []]] 2,.box [.str ([116]++(am i)),.imm ((mnC true).map Co.v),.imm (([[105,100]]:List (List UInt8)).map aa.str),.imm (([⟨[116,111],aV (aJ l i (((2 * mny n:Nat):Int))).toNat⟩]:List Rf).map Rf.v),.int .i64 2,.str [],.int .i64 1,.str [],.imm (([]:List (List UInt8)).map aa.str),.imm (([]:List (List UInt8)).map aa.str),.imm (([]:List Ex).map Ex.enc),.int .i64 0,.int .i64 0]] ?_ ?_
 refine qo ?_ ?_
 refine qr 1 ?_ ?_
 refine qy (aI (a:=((i:Nat):Int)) (b:=1) kq oq oq) ?_ ?_ ?_
 refine qr 1 ?_ ?_
 refine qe ?_ ?_
 refine ab ⟨i+1,?_,?_,⟨⟨kq,(Eq.trans (b:=.own 0 0 ((mnL n l i)++[(Dc.mk 1 ([116]++(am i)) (Sm.mk [] []) (Tb.mk ([116]++(am i)) (mnC true) ([[105,100]]:List (List UInt8)) ([⟨[116,111],aV (aJ l i (((2 * mny n:Nat):Int))).toNat⟩]:List Rf) (Ex.mk 2 [] 1 [] ([]:List (List UInt8)) ([]:List (List UInt8)) ([]:List Ex) 0 0)) 0 0 0)]).length) kq BH),kq,kq,trivial⟩,by simp [aG,aa.bel],by simp,(Eq.trans (b:=[.arr 37 (((mnL n l i)++[(Dc.mk 1 ([116]++(am i)) (Sm.mk [] []) (Tb.mk ([116]++(am i)) (mnC true) ([[105,100]]:List (List UInt8)) ([⟨[116,111],aV (aJ l i (((2 * mny n:Nat):Int))).toNat⟩]:List Rf) (Ex.mk 2 [] 1 [] ([]:List (List UInt8)) ([]:List (List UInt8)) ([]:List Ex) 0 0)) 0 0 0)]).map Dc.v) 0]) kq BH),by simp [ai.belO,av,aB,aa.bel,Ty.v,Ex.v,Ct.v,Co.v,Rf.v,Sm.v,Tb.v_cs,Sc.v,Md.v,Pb.v,Ls.v,-List.map_take,-List.map_drop,-List.map_append]⟩⟩
 · omega
 · omega
 iterate 18 kernel_rfl
 refine qf (beq_eq_false_iff_ne.2 hb4) ?_ ?_
 refine qK ?_ ?_
 refine qz [(1,.imm (l.map (aa.int .i64))),(5,.own 0 0 (mnL n l i).length),(6,nI (mny (n))),(7,nI i),(8,.str ([116]++(am i))),(9,.ptr 2 0)] ?_ ?_
 refine tb 2 1 1 (cs:=[.str ([116]++(am i)),.own 1 0 2,.full [.str [105,100]],.full [.agg [.str [116,111],.str ([116]++(am ((aJ l i ((((2 * mny (n)):Nat):Int)))).toNat))]],.int .i64 2,.str [],.int .i64 1,.str [],.full [],.full [],.full [],.int .i64 0,.int .i64 0]) (es:=[.agg [.str [105,100],.int .i64 0,.str [],.int .i64 0,.full [],.full []],.agg [.str [116,111],.int .i64 0,.str [],.int .i64 0,.full [],.full []]]) (off:=0) (len:=2) (sz:=6) (fr:=0) [.str ([116]++(am i)),.imm [.agg [.str [105,100],.int .i64 0,.str [],.int .i64 0,.full [],.full []],.agg [.str [116,111],.int .i64 0,.str [],.int .i64 0,.full [],.full []]],.full [.str [105,100]],.full [.agg [.str [116,111],.str ([116]++(am ((aJ l i ((((2 * mny (n)):Nat):Int)))).toNat))]],.int .i64 2,.str [],.int .i64 1,.str [],.full [],.full [],.full [],.int .i64 0,.int .i64 0] [.agg [.str [105,100],.int .i64 0,.str [],.int .i64 0,.full [],.full []],.agg [.str [116,111],.int .i64 0,.str [],.int .i64 0,.full [],.full []]] dq kq kq kq zq kq kq ?_
 refine cc 2 1 (cs:=[.str ([116]++(am i)),.imm [.agg [.str [105,100],.int .i64 0,.str [],.int .i64 0,.full [],.full []],.agg [.str [116,111],.int .i64 0,.str [],.int .i64 0,.full [],.full []]],.full [.str [105,100]],.full [.agg [.str [116,111],.str ([116]++(am ((aJ l i ((((2 * mny (n)):Nat):Int)))).toNat))]],.int .i64 2,.str [],.int .i64 1,.str [],.full [],.full [],.full [],.int .i64 0,.int .i64 0]) (y:=.imm [.agg [.str [105,100],.int .i64 0,.str [],.int .i64 0,.full [],.full []],.agg [.str [116,111],.int .i64 0,.str [],.int .i64 0,.full [],.full []]]) [.str ([116]++(am i)),.imm ((mnC false).map Co.v),.full [.str [105,100]],.full [.agg [.str [116,111],.str ([116]++(am ((aJ l i ((((2 * mny (n)):Nat):Int)))).toNat))]],.int .i64 2,.str [],.int .i64 1,.str [],.full [],.full [],.full [],.int .i64 0,.int .i64 0] kq kq w4 xR ?_
 refine cc 2 2 (cs:=[.str ([116]++(am i)),.imm ((mnC false).map Co.v),.full [.str [105,100]],.full [.agg [.str [116,111],.str ([116]++(am ((aJ l i ((((2 * mny (n)):Nat):Int)))).toNat))]],.int .i64 2,.str [],.int .i64 1,.str [],.full [],.full [],.full [],.int .i64 0,.int .i64 0]) (y:=.full [.str [105,100]]) [.str ([116]++(am i)),.imm ((mnC false).map Co.v),.imm (([[105,100]]:List (List UInt8)).map aa.str),.full [.agg [.str [116,111],.str ([116]++(am ((aJ l i ((((2 * mny (n)):Nat):Int)))).toNat))]],.int .i64 2,.str [],.int .i64 1,.str [],.full [],.full [],.full [],.int .i64 0,.int .i64 0] kq kq iu ir ?_
 refine cc 2 3 (cs:=[.str ([116]++(am i)),.imm ((mnC false).map Co.v),.imm (([[105,100]]:List (List UInt8)).map aa.str),.full [.agg [.str [116,111],.str ([116]++(am ((aJ l i ((((2 * mny (n)):Nat):Int)))).toNat))]],.int .i64 2,.str [],.int .i64 1,.str [],.full [],.full [],.full [],.int .i64 0,.int .i64 0]) (y:=.full [.agg [.str [116,111],.str ([116]++(am ((aJ l i ((((2 * mny (n)):Nat):Int)))).toNat))]]) [.str ([116]++(am i)),.imm ((mnC false).map Co.v),.imm (([[105,100]]:List (List UInt8)).map aa.str),.imm (([⟨[116,111],aV (aJ l i (((2 * mny n:Nat):Int))).toNat⟩]:List Rf).map Rf.v),.int .i64 2,.str [],.int .i64 1,.str [],.full [],.full [],.full [],.int .i64 0,.int .i64 0] kq kq x9 ym ?_
 refine cc 2 8 (cs:=[.str ([116]++(am i)),.imm ((mnC false).map Co.v),.imm (([[105,100]]:List (List UInt8)).map aa.str),.imm (([⟨[116,111],aV (aJ l i (((2 * mny n:Nat):Int))).toNat⟩]:List Rf).map Rf.v),.int .i64 2,.str [],.int .i64 1,.str [],.full [],.full [],.full [],.int .i64 0,.int .i64 0]) (y:=.full []) [.str ([116]++(am i)),.imm ((mnC false).map Co.v),.imm (([[105,100]]:List (List UInt8)).map aa.str),.imm (([⟨[116,111],aV (aJ l i (((2 * mny n:Nat):Int))).toNat⟩]:List Rf).map Rf.v),.int .i64 2,.str [],.int .i64 1,.str [],.imm (([]:List (List UInt8)).map aa.str),.full [],.full [],.int .i64 0,.int .i64 0] kq kq iu ir ?_
 refine cc 2 9 (cs:=[.str ([116]++(am i)),.imm ((mnC false).map Co.v),.imm (([[105,100]]:List (List UInt8)).map aa.str),.imm (([⟨[116,111],aV (aJ l i (((2 * mny n:Nat):Int))).toNat⟩]:List Rf).map Rf.v),.int .i64 2,.str [],.int .i64 1,.str [],.imm (([]:List (List UInt8)).map aa.str),.full [],.full [],.int .i64 0,.int .i64 0]) (y:=.full []) [.str ([116]++(am i)),.imm ((mnC false).map Co.v),.imm (([[105,100]]:List (List UInt8)).map aa.str),.imm (([⟨[116,111],aV (aJ l i (((2 * mny n:Nat):Int))).toNat⟩]:List Rf).map Rf.v),.int .i64 2,.str [],.int .i64 1,.str [],.imm (([]:List (List UInt8)).map aa.str),.imm (([]:List (List UInt8)).map aa.str),.full [],.int .i64 0,.int .i64 0] kq kq iu ir ?_
 refine cc 2 10 (cs:=[.str ([116]++(am i)),.imm ((mnC false).map Co.v),.imm (([[105,100]]:List (List UInt8)).map aa.str),.imm (([⟨[116,111],aV (aJ l i (((2 * mny n:Nat):Int))).toNat⟩]:List Rf).map Rf.v),.int .i64 2,.str [],.int .i64 1,.str [],.imm (([]:List (List UInt8)).map aa.str),.imm (([]:List (List UInt8)).map aa.str),.full [],.int .i64 0,.int .i64 0]) (y:=.full []) [.str ([116]++(am i)),.imm ((mnC false).map Co.v),.imm (([[105,100]]:List (List UInt8)).map aa.str),.imm (([⟨[116,111],aV (aJ l i (((2 * mny n:Nat):Int))).toNat⟩]:List Rf).map Rf.v),.int .i64 2,.str [],.int .i64 1,.str [],.imm (([]:List (List UInt8)).map aa.str),.imm (([]:List (List UInt8)).map aa.str),.imm (([]:List Ex).map Ex.enc),.int .i64 0,.int .i64 0] kq kq iu ir ?_
 refine qZ [(1,.imm (l.map (aa.int .i64))),(5,.own 0 0 (mnL n l i).length),(6,nI (mny (n))),(7,nI i),(8,.str ([116]++(am i))),(9,.ptr 2 0)] [.arr 37 ((mnL n l i).map Dc.v) 0,.arr 6 [.agg [.str [105,100],.int .i64 0,.str [],.int .i64 0,.full [],.full []],.agg [.str [116,111],.int .i64 0,.str [],.int .i64 0,.full [],.full []]] 2,.box [.str ([116]++(am i)),.imm ((mnC false).map Co.v),.imm (([[105,100]]:List (List UInt8)).map aa.str),.imm (([⟨[116,111],aV (aJ l i (((2 * mny n:Nat):Int))).toNat⟩]:List Rf).map Rf.v),.int .i64 2,.str [],.int .i64 1,.str [],.imm (([]:List (List UInt8)).map aa.str),.imm (([]:List (List UInt8)).map aa.str),.imm (([]:List Ex).map Ex.enc),.int .i64 0,.int .i64 0]] ?_ ?_
 refine qo ?_ ?_
 refine qr 5 ?_ ?_
 refine qY (bL (o:=0) (len:=((mnL n l i).length)) (l:=(mnL n l i)) (xs:=[.agg [.int .i64 1,.str ([116]++(am i)),.str [],.full [],.str ([116]++(am i)),.imm ((mnC false).map Co.v),.imm (([[105,100]]:List (List UInt8)).map aa.str),.imm (([⟨[116,111],aV (aJ l i (((2 * mny n:Nat):Int))).toNat⟩]:List Rf).map Rf.v),.int .i64 2,.str [],.int .i64 1,.str [],.imm (([]:List (List UInt8)).map aa.str),.imm (([]:List (List UInt8)).map aa.str),.imm (([]:List Ex).map Ex.enc),.int .i64 0,.int .i64 0,.full [],.bool false,.int .i64 0,.str [],.int .i64 0,.full [],.full [],.int .i64 0,.str [],.int .i64 0,.str [],.full [],.full [],.full [],.int .i64 0,.int .i64 0,.full [],.int .i64 0,.int .i64 0,.int .i64 0]]) (enc:=Dc.v) (sz:=37) (fr:=0) (x:=(.full [.agg [.int .i64 1,.str ([116]++(am i)),.str [],.full [],.str ([116]++(am i)),.imm ((mnC false).map Co.v),.imm (([[105,100]]:List (List UInt8)).map aa.str),.imm (([⟨[116,111],aV (aJ l i (((2 * mny n:Nat):Int))).toNat⟩]:List Rf).map Rf.v),.int .i64 2,.str [],.int .i64 1,.str [],.imm (([]:List (List UInt8)).map aa.str),.imm (([]:List (List UInt8)).map aa.str),.imm (([]:List Ex).map Ex.enc),.int .i64 0,.int .i64 0,.full [],.bool false,.int .i64 0,.str [],.int .i64 0,.full [],.full [],.int .i64 0,.str [],.int .i64 0,.str [],.full [],.full [],.full [],.int .i64 0,.int .i64 0,.full [],.int .i64 0,.int .i64 0,.int .i64 0]])) kq dE i5 dE rfl kq rfl rfl kq ⟨by decide,by kernel_rfl⟩ kq qg qg) ?_ ?_ ?_
 refine qr 1 ?_ ?_
 refine qe ?_ ?_
 refine ah ?_
 refine ab ?_
 refine qZ [(1,.imm (l.map (aa.int .i64))),(5,.own 0 0 ((mnL n l i).length+1)),(6,nI (mny (n))),(7,nI i)] [.arr 37 ((mnL n l i).map Dc.v++[.agg [.int .i64 1,.str ([116]++(am i)),.str [],.full [],.str ([116]++(am i)),.imm ((mnC false).map Co.v),.imm (([[105,100]]:List (List UInt8)).map aa.str),.imm (([⟨[116,111],aV (aJ l i (((2 * mny n:Nat):Int))).toNat⟩]:List Rf).map Rf.v),.int .i64 2,.str [],.int .i64 1,.str [],.imm (([]:List (List UInt8)).map aa.str),.imm (([]:List (List UInt8)).map aa.str),.imm (([]:List Ex).map Ex.enc),.int .i64 0,.int .i64 0,.full [],.bool false,.int .i64 0,.str [],.int .i64 0,.full [],.full [],.int .i64 0,.str [],.int .i64 0,.str [],.full [],.full [],.full [],.int .i64 0,.int .i64 0,.full [],.int .i64 0,.int .i64 0,.int .i64 0]]) 0,.arr 6 [.agg [.str [105,100],.int .i64 0,.str [],.int .i64 0,.full [],.full []],.agg [.str [116,111],.int .i64 0,.str [],.int .i64 0,.full [],.full []]] 2,.box [.str ([116]++(am i)),.imm ((mnC false).map Co.v),.imm (([[105,100]]:List (List UInt8)).map aa.str),.imm (([⟨[116,111],aV (aJ l i (((2 * mny n:Nat):Int))).toNat⟩]:List Rf).map Rf.v),.int .i64 2,.str [],.int .i64 1,.str [],.imm (([]:List (List UInt8)).map aa.str),.imm (([]:List (List UInt8)).map aa.str),.imm (([]:List Ex).map Ex.enc),.int .i64 0,.int .i64 0]] ?_ ?_
 refine em 0 (sz:=37) (fr:=0) (es:=((mnL n l i).map Dc.v++[.agg [.int .i64 1,.str ([116]++(am i)),.str [],.full [],.str ([116]++(am i)),.imm ((mnC false).map Co.v),.imm (([[105,100]]:List (List UInt8)).map aa.str),.imm (([⟨[116,111],aV (aJ l i (((2 * mny n:Nat):Int))).toNat⟩]:List Rf).map Rf.v),.int .i64 2,.str [],.int .i64 1,.str [],.imm (([]:List (List UInt8)).map aa.str),.imm (([]:List (List UInt8)).map aa.str),.imm (([]:List Ex).map Ex.enc),.int .i64 0,.int .i64 0,.full [],.bool false,.int .i64 0,.str [],.int .i64 0,.full [],.full [],.int .i64 0,.str [],.int .i64 0,.str [],.full [],.full [],.full [],.int .i64 0,.int .i64 0,.full [],.int .i64 0,.int .i64 0,.int .i64 0]])) (((mnL n l i)++[(Dc.mk 1 ([116]++(am i)) (Sm.mk [] []) (Tb.mk ([116]++(am i)) (mnC false) ([[105,100]]:List (List UInt8)) ([⟨[116,111],aV (aJ l i (((2 * mny n:Nat):Int))).toNat⟩]:List Rf) (Ex.mk 2 [] 1 [] ([]:List (List UInt8)) ([]:List (List UInt8)) ([]:List Ex) 0 0)) 0 0 0)]).map Dc.v) kq l3 xB ?_
 refine fX 5 (.own 0 0 ((mnL n l i).length+1)) (.own 0 0 ((mnL n l i)++[(Dc.mk 1 ([116]++(am i)) (Sm.mk [] []) (Tb.mk ([116]++(am i)) (mnC false) ([[105,100]]:List (List UInt8)) ([⟨[116,111],aV (aJ l i (((2 * mny n:Nat):Int))).toNat⟩]:List Rf) (Ex.mk 2 [] 1 [] ([]:List (List UInt8)) ([]:List (List UInt8)) ([]:List Ex) 0 0)) 0 0 0)]).length) kq zq ?_
 refine qZ [(1,.imm (l.map (aa.int .i64))),(5,.own 0 0 ((mnL n l i)++[(Dc.mk 1 ([116]++(am i)) (Sm.mk [] []) (Tb.mk ([116]++(am i)) (mnC false) ([[105,100]]:List (List UInt8)) ([⟨[116,111],aV (aJ l i (((2 * mny n:Nat):Int))).toNat⟩]:List Rf) (Ex.mk 2 [] 1 [] ([]:List (List UInt8)) ([]:List (List UInt8)) ([]:List Ex) 0 0)) 0 0 0)]).length),(6,nI (mny (n))),(7,nI i)] [.arr 37 (((mnL n l i)++[(Dc.mk 1 ([116]++(am i)) (Sm.mk [] []) (Tb.mk ([116]++(am i)) (mnC false) ([[105,100]]:List (List UInt8)) ([⟨[116,111],aV (aJ l i (((2 * mny n:Nat):Int))).toNat⟩]:List Rf) (Ex.mk 2 [] 1 [] ([]:List (List UInt8)) ([]:List (List UInt8)) ([]:List Ex) 0 0)) 0 0 0)]).map Dc.v) 0,.arr 6 [.agg [.str [105,100],.int .i64 0,.str [],.int .i64 0,.full [],.full []],.agg [.str [116,111],.int .i64 0,.str [],.int .i64 0,.full [],.full []]] 2,.box [.str ([116]++(am i)),.imm ((mnC false).map Co.v),.imm (([[105,100]]:List (List UInt8)).map aa.str),.imm (([⟨[116,111],aV (aJ l i (((2 * mny n:Nat):Int))).toNat⟩]:List Rf).map Rf.v),.int .i64 2,.str [],.int .i64 1,.str [],.imm (([]:List (List UInt8)).map aa.str),.imm (([]:List (List UInt8)).map aa.str),.imm (([]:List Ex).map Ex.enc),.int .i64 0,.int .i64 0]] ?_ ?_
 refine qo ?_ ?_
 refine qr 1 ?_ ?_
 refine qy (aI (a:=((i:Nat):Int)) (b:=1) kq oq oq) ?_ ?_ ?_
 refine qr 1 ?_ ?_
 refine qe ?_ ?_
 refine ab ⟨i+1,?_,?_,⟨⟨kq,(Eq.trans (b:=.own 0 0 ((mnL n l i)++[(Dc.mk 1 ([116]++(am i)) (Sm.mk [] []) (Tb.mk ([116]++(am i)) (mnC false) ([[105,100]]:List (List UInt8)) ([⟨[116,111],aV (aJ l i (((2 * mny n:Nat):Int))).toNat⟩]:List Rf) (Ex.mk 2 [] 1 [] ([]:List (List UInt8)) ([]:List (List UInt8)) ([]:List Ex) 0 0)) 0 0 0)]).length) kq A8),kq,kq,trivial⟩,by simp [aG,aa.bel],by simp,(Eq.trans (b:=[.arr 37 (((mnL n l i)++[(Dc.mk 1 ([116]++(am i)) (Sm.mk [] []) (Tb.mk ([116]++(am i)) (mnC false) ([[105,100]]:List (List UInt8)) ([⟨[116,111],aV (aJ l i (((2 * mny n:Nat):Int))).toNat⟩]:List Rf) (Ex.mk 2 [] 1 [] ([]:List (List UInt8)) ([]:List (List UInt8)) ([]:List Ex) 0 0)) 0 0 0)]).map Dc.v) 0]) kq A8),by simp [ai.belO,av,aB,aa.bel,Ty.v,Ex.v,Ct.v,Co.v,Rf.v,Sm.v,Tb.v_cs,Sc.v,Md.v,Pb.v,Ls.v,-List.map_take,-List.map_drop,-List.map_append]⟩⟩
 · omega
 · omega
 iterate 30 kernel_rfl
 refine qf (decide_eq_false hb3) ?_ ?_
 refine qK ?_ ?_
 refine qz [(1,.imm (l.map (aa.int .i64))),(5,.own 0 0 (mnL n l i).length),(6,nI (mny (n))),(7,nI i),(8,.str ([116]++(am i))),(9,.ptr 2 0)] ?_ ?_
 refine az ?_ ?_
 refine qV 2 ?_ ?_
 refine qy (aI (a:=((i:Nat):Int)) (b:=1) kq oq oq) ?_ ?_ ?_
 refine bj (args:=[.imm (l.map (aa.int .i64)),.int .i64 (((i+1):Nat):Int),.int .i64 7]) kq kq kq kq (d4 l (i+1) 7 hl dq) iK iK l3 ?_
 refine qR 1 [(1,.imm (l.map (aa.int .i64))),(5,.own 0 0 (mnL n l i).length),(6,nI (mny (n))),(7,nI i),(8,.str ([116]++(am i))),(9,.ptr 2 0),(51,.bool ((aJ l (i+1) 7)==0))] [.arr 37 ((mnL n l i).map Dc.v) 0,.arr 6 [.agg [.str [105,100],.int .i64 0,.str [],.int .i64 0,.full [],.full []],.agg [.str [116,111],.int .i64 0,.str [],.int .i64 0,.full [],.full []]] 0,.box [.str ([116]++(am i)),.own 1 0 2,.full [.str [105,100]],.full [],.int .i64 2,.str [],.int .i64 1,.str [],.full [],.full [],.full [],.int .i64 0,.int .i64 0]] ?_ ?_
 by_cases hb5:(aJ l (i+1) 7)=0
 refine qt (beq_iff_eq.2 hb5) ?_ ?_
 refine qo ?_ ?_
 refine qR 6 [(1,.imm (l.map (aa.int .i64))),(5,.own 0 0 (mnL n l i).length),(6,nI (mny (n))),(7,nI i),(8,.str ([116]++(am i))),(9,.ptr 2 0)] [.arr 37 ((mnL n l i).map Dc.v) 0,.arr 6 [.agg [.str [105,100],.int .i64 0,.str [],.int .i64 0,.full [],.full []],.agg [.str [116,111],.int .i64 4,.str [],.int .i64 0,.full [],.full []]] 0,.box [.str ([116]++(am i)),.own 1 0 2,.full [.str [105,100]],.full [],.int .i64 2,.str [],.int .i64 1,.str [],.full [],.full [],.full [],.int .i64 0,.int .i64 0]] ?_ ?_
 refine tb 2 1 1 (cs:=[.str ([116]++(am i)),.own 1 0 2,.full [.str [105,100]],.full [],.int .i64 2,.str [],.int .i64 1,.str [],.full [],.full [],.full [],.int .i64 0,.int .i64 0]) (es:=[.agg [.str [105,100],.int .i64 0,.str [],.int .i64 0,.full [],.full []],.agg [.str [116,111],.int .i64 4,.str [],.int .i64 0,.full [],.full []]]) (off:=0) (len:=2) (sz:=6) (fr:=0) [.str ([116]++(am i)),.imm [.agg [.str [105,100],.int .i64 0,.str [],.int .i64 0,.full [],.full []],.agg [.str [116,111],.int .i64 4,.str [],.int .i64 0,.full [],.full []]],.full [.str [105,100]],.full [],.int .i64 2,.str [],.int .i64 1,.str [],.full [],.full [],.full [],.int .i64 0,.int .i64 0] [.agg [.str [105,100],.int .i64 0,.str [],.int .i64 0,.full [],.full []],.agg [.str [116,111],.int .i64 4,.str [],.int .i64 0,.full [],.full []]] dq kq kq kq zq kq kq ?_
 refine cc 2 1 (cs:=[.str ([116]++(am i)),.imm [.agg [.str [105,100],.int .i64 0,.str [],.int .i64 0,.full [],.full []],.agg [.str [116,111],.int .i64 4,.str [],.int .i64 0,.full [],.full []]],.full [.str [105,100]],.full [],.int .i64 2,.str [],.int .i64 1,.str [],.full [],.full [],.full [],.int .i64 0,.int .i64 0]) (y:=.imm [.agg [.str [105,100],.int .i64 0,.str [],.int .i64 0,.full [],.full []],.agg [.str [116,111],.int .i64 4,.str [],.int .i64 0,.full [],.full []]]) [.str ([116]++(am i)),.imm ((mnC true).map Co.v),.full [.str [105,100]],.full [],.int .i64 2,.str [],.int .i64 1,.str [],.full [],.full [],.full [],.int .i64 0,.int .i64 0] kq kq w4 xR ?_
 refine cc 2 2 (cs:=[.str ([116]++(am i)),.imm ((mnC true).map Co.v),.full [.str [105,100]],.full [],.int .i64 2,.str [],.int .i64 1,.str [],.full [],.full [],.full [],.int .i64 0,.int .i64 0]) (y:=.full [.str [105,100]]) [.str ([116]++(am i)),.imm ((mnC true).map Co.v),.imm (([[105,100]]:List (List UInt8)).map aa.str),.full [],.int .i64 2,.str [],.int .i64 1,.str [],.full [],.full [],.full [],.int .i64 0,.int .i64 0] kq kq iu ir ?_
 refine cc 2 3 (cs:=[.str ([116]++(am i)),.imm ((mnC true).map Co.v),.imm (([[105,100]]:List (List UInt8)).map aa.str),.full [],.int .i64 2,.str [],.int .i64 1,.str [],.full [],.full [],.full [],.int .i64 0,.int .i64 0]) (y:=.full []) [.str ([116]++(am i)),.imm ((mnC true).map Co.v),.imm (([[105,100]]:List (List UInt8)).map aa.str),.imm (([]:List Rf).map Rf.v),.int .i64 2,.str [],.int .i64 1,.str [],.full [],.full [],.full [],.int .i64 0,.int .i64 0] kq kq x9 ym ?_
 refine cc 2 8 (cs:=[.str ([116]++(am i)),.imm ((mnC true).map Co.v),.imm (([[105,100]]:List (List UInt8)).map aa.str),.imm (([]:List Rf).map Rf.v),.int .i64 2,.str [],.int .i64 1,.str [],.full [],.full [],.full [],.int .i64 0,.int .i64 0]) (y:=.full []) [.str ([116]++(am i)),.imm ((mnC true).map Co.v),.imm (([[105,100]]:List (List UInt8)).map aa.str),.imm (([]:List Rf).map Rf.v),.int .i64 2,.str [],.int .i64 1,.str [],.imm (([]:List (List UInt8)).map aa.str),.full [],.full [],.int .i64 0,.int .i64 0] kq kq iu ir ?_
 refine cc 2 9 (cs:=[.str ([116]++(am i)),.imm ((mnC true).map Co.v),.imm (([[105,100]]:List (List UInt8)).map aa.str),.imm (([]:List Rf).map Rf.v),.int .i64 2,.str [],.int .i64 1,.str [],.imm (([]:List (List UInt8)).map aa.str),.full [],.full [],.int .i64 0,.int .i64 0]) (y:=.full []) [.str ([116]++(am i)),.imm ((mnC true).map Co.v),.imm (([[105,100]]:List (List UInt8)).map aa.str),.imm (([]:List Rf).map Rf.v),.int .i64 2,.str [],.int .i64 1,.str [],.imm (([]:List (List UInt8)).map aa.str),.imm (([]:List (List UInt8)).map aa.str),.full [],.int .i64 0,.int .i64 0] kq kq iu ir ?_
 refine cc 2 10 (cs:=[.str ([116]++(am i)),.imm ((mnC true).map Co.v),.imm (([[105,100]]:List (List UInt8)).map aa.str),.imm (([]:List Rf).map Rf.v),.int .i64 2,.str [],.int .i64 1,.str [],.imm (([]:List (List UInt8)).map aa.str),.imm (([]:List (List UInt8)).map aa.str),.full [],.int .i64 0,.int .i64 0]) (y:=.full []) [.str ([116]++(am i)),.imm ((mnC true).map Co.v),.imm (([[105,100]]:List (List UInt8)).map aa.str),.imm (([]:List Rf).map Rf.v),.int .i64 2,.str [],.int .i64 1,.str [],.imm (([]:List (List UInt8)).map aa.str),.imm (([]:List (List UInt8)).map aa.str),.imm (([]:List Ex).map Ex.enc),.int .i64 0,.int .i64 0] kq kq iu ir ?_
 refine qZ [(1,.imm (l.map (aa.int .i64))),(5,.own 0 0 (mnL n l i).length),(6,nI (mny (n))),(7,nI i),(8,.str ([116]++(am i))),(9,.ptr 2 0)] [.arr 37 ((mnL n l i).map Dc.v) 0,.arr 6 [.agg [.str [105,100],.int .i64 0,.str [],.int .i64 0,.full [],.full []],.agg [.str [116,111],.int .i64 4,.str [],.int .i64 0,.full [],.full []]] 2,.box [.str ([116]++(am i)),.imm ((mnC true).map Co.v),.imm (([[105,100]]:List (List UInt8)).map aa.str),.imm (([]:List Rf).map Rf.v),.int .i64 2,.str [],.int .i64 1,.str [],.imm (([]:List (List UInt8)).map aa.str),.imm (([]:List (List UInt8)).map aa.str),.imm (([]:List Ex).map Ex.enc),.int .i64 0,.int .i64 0]] ?_ ?_
 refine qo ?_ ?_
 refine qr 5 ?_ ?_
 refine qY (bL (o:=0) (len:=((mnL n l i).length)) (l:=(mnL n l i)) (xs:=[.agg [.int .i64 1,.str ([116]++(am i)),.str [],.full [],.str ([116]++(am i)),.imm ((mnC true).map Co.v),.imm (([[105,100]]:List (List UInt8)).map aa.str),.imm (([]:List Rf).map Rf.v),.int .i64 2,.str [],.int .i64 1,.str [],.imm (([]:List (List UInt8)).map aa.str),.imm (([]:List (List UInt8)).map aa.str),.imm (([]:List Ex).map Ex.enc),.int .i64 0,.int .i64 0,.full [],.bool false,.int .i64 0,.str [],.int .i64 0,.full [],.full [],.int .i64 0,.str [],.int .i64 0,.str [],.full [],.full [],.full [],.int .i64 0,.int .i64 0,.full [],.int .i64 0,.int .i64 0,.int .i64 0]]) (enc:=Dc.v) (sz:=37) (fr:=0) (x:=(.full [.agg [.int .i64 1,.str ([116]++(am i)),.str [],.full [],.str ([116]++(am i)),.imm ((mnC true).map Co.v),.imm (([[105,100]]:List (List UInt8)).map aa.str),.imm (([]:List Rf).map Rf.v),.int .i64 2,.str [],.int .i64 1,.str [],.imm (([]:List (List UInt8)).map aa.str),.imm (([]:List (List UInt8)).map aa.str),.imm (([]:List Ex).map Ex.enc),.int .i64 0,.int .i64 0,.full [],.bool false,.int .i64 0,.str [],.int .i64 0,.full [],.full [],.int .i64 0,.str [],.int .i64 0,.str [],.full [],.full [],.full [],.int .i64 0,.int .i64 0,.full [],.int .i64 0,.int .i64 0,.int .i64 0]])) kq dE i5 dE rfl kq rfl rfl kq ⟨by decide,by kernel_rfl⟩ kq qg qg) ?_ ?_ ?_
 refine qr 1 ?_ ?_
 refine qe ?_ ?_
 refine ah ?_
 refine ab ?_
 refine qZ [(1,.imm (l.map (aa.int .i64))),(5,.own 0 0 ((mnL n l i).length+1)),(6,nI (mny (n))),(7,nI i)] [.arr 37 ((mnL n l i).map Dc.v++[.agg [.int .i64 1,.str ([116]++(am i)),.str [],.full [],.str ([116]++(am i)),.imm ((mnC true).map Co.v),.imm (([[105,100]]:List (List UInt8)).map aa.str),.imm (([]:List Rf).map Rf.v),.int .i64 2,.str [],.int .i64 1,.str [],.imm (([]:List (List UInt8)).map aa.str),.imm (([]:List (List UInt8)).map aa.str),.imm (([]:List Ex).map Ex.enc),.int .i64 0,.int .i64 0,.full [],.bool false,.int .i64 0,.str [],.int .i64 0,.full [],.full [],.int .i64 0,.str [],.int .i64 0,.str [],.full [],.full [],.full [],.int .i64 0,.int .i64 0,.full [],.int .i64 0,.int .i64 0,.int .i64 0]]) 0,.arr 6 [.agg [.str [105,100],.int .i64 0,.str [],.int .i64 0,.full [],.full []],.agg [.str [116,111],.int .i64 4,.str [],.int .i64 0,.full [],.full []]] 2,.box [.str ([116]++(am i)),.imm ((mnC true).map Co.v),.imm (([[105,100]]:List (List UInt8)).map aa.str),.imm (([]:List Rf).map Rf.v),.int .i64 2,.str [],.int .i64 1,.str [],.imm (([]:List (List UInt8)).map aa.str),.imm (([]:List (List UInt8)).map aa.str),.imm (([]:List Ex).map Ex.enc),.int .i64 0,.int .i64 0]] ?_ ?_
 refine em 0 (sz:=37) (fr:=0) (es:=((mnL n l i).map Dc.v++[.agg [.int .i64 1,.str ([116]++(am i)),.str [],.full [],.str ([116]++(am i)),.imm ((mnC true).map Co.v),.imm (([[105,100]]:List (List UInt8)).map aa.str),.imm (([]:List Rf).map Rf.v),.int .i64 2,.str [],.int .i64 1,.str [],.imm (([]:List (List UInt8)).map aa.str),.imm (([]:List (List UInt8)).map aa.str),.imm (([]:List Ex).map Ex.enc),.int .i64 0,.int .i64 0,.full [],.bool false,.int .i64 0,.str [],.int .i64 0,.full [],.full [],.int .i64 0,.str [],.int .i64 0,.str [],.full [],.full [],.full [],.int .i64 0,.int .i64 0,.full [],.int .i64 0,.int .i64 0,.int .i64 0]])) (((mnL n l i)++[(Dc.mk 1 ([116]++(am i)) (Sm.mk [] []) (Tb.mk ([116]++(am i)) (mnC true) ([[105,100]]:List (List UInt8)) ([]:List Rf) (Ex.mk 2 [] 1 [] ([]:List (List UInt8)) ([]:List (List UInt8)) ([]:List Ex) 0 0)) 0 0 0)]).map Dc.v) kq l3 xB ?_
 refine fX 5 (.own 0 0 ((mnL n l i).length+1)) (.own 0 0 ((mnL n l i)++[(Dc.mk 1 ([116]++(am i)) (Sm.mk [] []) (Tb.mk ([116]++(am i)) (mnC true) ([[105,100]]:List (List UInt8)) ([]:List Rf) (Ex.mk 2 [] 1 [] ([]:List (List UInt8)) ([]:List (List UInt8)) ([]:List Ex) 0 0)) 0 0 0)]).length) kq zq ?_
 refine qZ [(1,.imm (l.map (aa.int .i64))),(5,.own 0 0 ((mnL n l i)++[(Dc.mk 1 ([116]++(am i)) (Sm.mk [] []) (Tb.mk ([116]++(am i)) (mnC true) ([[105,100]]:List (List UInt8)) ([]:List Rf) (Ex.mk 2 [] 1 [] ([]:List (List UInt8)) ([]:List (List UInt8)) ([]:List Ex) 0 0)) 0 0 0)]).length),(6,nI (mny (n))),(7,nI i)] [.arr 37 (((mnL n l i)++[(Dc.mk 1 ([116]++(am i)) (Sm.mk [] []) (Tb.mk ([116]++(am i)) (mnC true) ([[105,100]]:List (List UInt8)) ([]:List Rf) (Ex.mk 2 [] 1 [] ([]:List (List UInt8)) ([]:List (List UInt8)) ([]:List Ex) 0 0)) 0 0 0)]).map Dc.v) 0,.arr 6 [.agg [.str [105,100],.int .i64 0,.str [],.int .i64 0,.full [],.full []],.agg [.str [116,111],.int .i64 4,.str [],.int .i64 0,.full [],.full []]] 2,.box [.str ([116]++(am i)),.imm ((mnC true).map Co.v),.imm (([[105,100]]:List (List UInt8)).map aa.str),.imm (([]:List Rf).map Rf.v),.int .i64 2,.str [],.int .i64 1,.str [],.imm (([]:List (List UInt8)).map aa.str),.imm (([]:List (List UInt8)).map aa.str),.imm (([]:List Ex).map Ex.enc),.int .i64 0,.int .i64 0]] ?_ ?_
 refine qo ?_ ?_
 refine qr 1 ?_ ?_
 refine qy (aI (a:=((i:Nat):Int)) (b:=1) kq oq oq) ?_ ?_ ?_
 refine qr 1 ?_ ?_
 refine qe ?_ ?_
 refine ab ⟨i+1,?_,?_,⟨⟨kq,(Eq.trans (b:=.own 0 0 ((mnL n l i)++[(Dc.mk 1 ([116]++(am i)) (Sm.mk [] []) (Tb.mk ([116]++(am i)) (mnC true) ([[105,100]]:List (List UInt8)) ([]:List Rf) (Ex.mk 2 [] 1 [] ([]:List (List UInt8)) ([]:List (List UInt8)) ([]:List Ex) 0 0)) 0 0 0)]).length) kq Bw),kq,kq,trivial⟩,by simp [aG,aa.bel],by simp,(Eq.trans (b:=[.arr 37 (((mnL n l i)++[(Dc.mk 1 ([116]++(am i)) (Sm.mk [] []) (Tb.mk ([116]++(am i)) (mnC true) ([[105,100]]:List (List UInt8)) ([]:List Rf) (Ex.mk 2 [] 1 [] ([]:List (List UInt8)) ([]:List (List UInt8)) ([]:List Ex) 0 0)) 0 0 0)]).map Dc.v) 0]) kq Bw),by simp [ai.belO,av,aB,aa.bel,Ty.v,Ex.v,Ct.v,Co.v,Rf.v,Sm.v,Tb.v_cs,Sc.v,Md.v,Pb.v,Ls.v,-List.map_take,-List.map_drop,-List.map_append]⟩⟩
 · omega
 · omega
 iterate 18 kernel_rfl
 refine qf (beq_eq_false_iff_ne.2 hb5) ?_ ?_
 refine qK ?_ ?_
 refine qz [(1,.imm (l.map (aa.int .i64))),(5,.own 0 0 (mnL n l i).length),(6,nI (mny (n))),(7,nI i),(8,.str ([116]++(am i))),(9,.ptr 2 0)] ?_ ?_
 refine tb 2 1 1 (cs:=[.str ([116]++(am i)),.own 1 0 2,.full [.str [105,100]],.full [],.int .i64 2,.str [],.int .i64 1,.str [],.full [],.full [],.full [],.int .i64 0,.int .i64 0]) (es:=[.agg [.str [105,100],.int .i64 0,.str [],.int .i64 0,.full [],.full []],.agg [.str [116,111],.int .i64 0,.str [],.int .i64 0,.full [],.full []]]) (off:=0) (len:=2) (sz:=6) (fr:=0) [.str ([116]++(am i)),.imm [.agg [.str [105,100],.int .i64 0,.str [],.int .i64 0,.full [],.full []],.agg [.str [116,111],.int .i64 0,.str [],.int .i64 0,.full [],.full []]],.full [.str [105,100]],.full [],.int .i64 2,.str [],.int .i64 1,.str [],.full [],.full [],.full [],.int .i64 0,.int .i64 0] [.agg [.str [105,100],.int .i64 0,.str [],.int .i64 0,.full [],.full []],.agg [.str [116,111],.int .i64 0,.str [],.int .i64 0,.full [],.full []]] dq kq kq kq zq kq kq ?_
 refine cc 2 1 (cs:=[.str ([116]++(am i)),.imm [.agg [.str [105,100],.int .i64 0,.str [],.int .i64 0,.full [],.full []],.agg [.str [116,111],.int .i64 0,.str [],.int .i64 0,.full [],.full []]],.full [.str [105,100]],.full [],.int .i64 2,.str [],.int .i64 1,.str [],.full [],.full [],.full [],.int .i64 0,.int .i64 0]) (y:=.imm [.agg [.str [105,100],.int .i64 0,.str [],.int .i64 0,.full [],.full []],.agg [.str [116,111],.int .i64 0,.str [],.int .i64 0,.full [],.full []]]) [.str ([116]++(am i)),.imm ((mnC false).map Co.v),.full [.str [105,100]],.full [],.int .i64 2,.str [],.int .i64 1,.str [],.full [],.full [],.full [],.int .i64 0,.int .i64 0] kq kq w4 xR ?_
 refine cc 2 2 (cs:=[.str ([116]++(am i)),.imm ((mnC false).map Co.v),.full [.str [105,100]],.full [],.int .i64 2,.str [],.int .i64 1,.str [],.full [],.full [],.full [],.int .i64 0,.int .i64 0]) (y:=.full [.str [105,100]]) [.str ([116]++(am i)),.imm ((mnC false).map Co.v),.imm (([[105,100]]:List (List UInt8)).map aa.str),.full [],.int .i64 2,.str [],.int .i64 1,.str [],.full [],.full [],.full [],.int .i64 0,.int .i64 0] kq kq iu ir ?_
 refine cc 2 3 (cs:=[.str ([116]++(am i)),.imm ((mnC false).map Co.v),.imm (([[105,100]]:List (List UInt8)).map aa.str),.full [],.int .i64 2,.str [],.int .i64 1,.str [],.full [],.full [],.full [],.int .i64 0,.int .i64 0]) (y:=.full []) [.str ([116]++(am i)),.imm ((mnC false).map Co.v),.imm (([[105,100]]:List (List UInt8)).map aa.str),.imm (([]:List Rf).map Rf.v),.int .i64 2,.str [],.int .i64 1,.str [],.full [],.full [],.full [],.int .i64 0,.int .i64 0] kq kq x9 ym ?_
 refine cc 2 8 (cs:=[.str ([116]++(am i)),.imm ((mnC false).map Co.v),.imm (([[105,100]]:List (List UInt8)).map aa.str),.imm (([]:List Rf).map Rf.v),.int .i64 2,.str [],.int .i64 1,.str [],.full [],.full [],.full [],.int .i64 0,.int .i64 0]) (y:=.full []) [.str ([116]++(am i)),.imm ((mnC false).map Co.v),.imm (([[105,100]]:List (List UInt8)).map aa.str),.imm (([]:List Rf).map Rf.v),.int .i64 2,.str [],.int .i64 1,.str [],.imm (([]:List (List UInt8)).map aa.str),.full [],.full [],.int .i64 0,.int .i64 0] kq kq iu ir ?_
 refine cc 2 9 (cs:=[.str ([116]++(am i)),.imm ((mnC false).map Co.v),.imm (([[105,100]]:List (List UInt8)).map aa.str),.imm (([]:List Rf).map Rf.v),.int .i64 2,.str [],.int .i64 1,.str [],.imm (([]:List (List UInt8)).map aa.str),.full [],.full [],.int .i64 0,.int .i64 0]) (y:=.full []) [.str ([116]++(am i)),.imm ((mnC false).map Co.v),.imm (([[105,100]]:List (List UInt8)).map aa.str),.imm (([]:List Rf).map Rf.v),.int .i64 2,.str [],.int .i64 1,.str [],.imm (([]:List (List UInt8)).map aa.str),.imm (([]:List (List UInt8)).map aa.str),.full [],.int .i64 0,.int .i64 0] kq kq iu ir ?_
 refine cc 2 10 (cs:=[.str ([116]++(am i)),.imm ((mnC false).map Co.v),.imm (([[105,100]]:List (List UInt8)).map aa.str),.imm (([]:List Rf).map Rf.v),.int .i64 2,.str [],.int .i64 1,.str [],.imm (([]:List (List UInt8)).map aa.str),.imm (([]:List (List UInt8)).map aa.str),.full [],.int .i64 0,.int .i64 0]) (y:=.full []) [.str ([116]++(am i)),.imm ((mnC false).map Co.v),.imm (([[105,100]]:List (List UInt8)).map aa.str),.imm (([]:List Rf).map Rf.v),.int .i64 2,.str [],.int .i64 1,.str [],.imm (([]:List (List UInt8)).map aa.str),.imm (([]:List (List UInt8)).map aa.str),.imm (([]:List Ex).map Ex.enc),.int .i64 0,.int .i64 0] kq kq iu ir ?_
 refine qZ [(1,.imm (l.map (aa.int .i64))),(5,.own 0 0 (mnL n l i).length),(6,nI (mny (n))),(7,nI i),(8,.str ([116]++(am i))),(9,.ptr 2 0)] [.arr 37 ((mnL n l i).map Dc.v) 0,.arr 6 [.agg [.str [105,100],.int .i64 0,.str [],.int .i64 0,.full [],.full []],.agg [.str [116,111],.int .i64 0,.str [],.int .i64 0,.full [],.full []]] 2,.box [.str ([116]++(am i)),.imm ((mnC false).map Co.v),.imm (([[105,100]]:List (List UInt8)).map aa.str),.imm (([]:List Rf).map Rf.v),.int .i64 2,.str [],.int .i64 1,.str [],.imm (([]:List (List UInt8)).map aa.str),.imm (([]:List (List UInt8)).map aa.str),.imm (([]:List Ex).map Ex.enc),.int .i64 0,.int .i64 0]] ?_ ?_
 refine qo ?_ ?_
 refine qr 5 ?_ ?_
 refine qY (bL (o:=0) (len:=((mnL n l i).length)) (l:=(mnL n l i)) (xs:=[.agg [.int .i64 1,.str ([116]++(am i)),.str [],.full [],.str ([116]++(am i)),.imm ((mnC false).map Co.v),.imm (([[105,100]]:List (List UInt8)).map aa.str),.imm (([]:List Rf).map Rf.v),.int .i64 2,.str [],.int .i64 1,.str [],.imm (([]:List (List UInt8)).map aa.str),.imm (([]:List (List UInt8)).map aa.str),.imm (([]:List Ex).map Ex.enc),.int .i64 0,.int .i64 0,.full [],.bool false,.int .i64 0,.str [],.int .i64 0,.full [],.full [],.int .i64 0,.str [],.int .i64 0,.str [],.full [],.full [],.full [],.int .i64 0,.int .i64 0,.full [],.int .i64 0,.int .i64 0,.int .i64 0]]) (enc:=Dc.v) (sz:=37) (fr:=0) (x:=(.full [.agg [.int .i64 1,.str ([116]++(am i)),.str [],.full [],.str ([116]++(am i)),.imm ((mnC false).map Co.v),.imm (([[105,100]]:List (List UInt8)).map aa.str),.imm (([]:List Rf).map Rf.v),.int .i64 2,.str [],.int .i64 1,.str [],.imm (([]:List (List UInt8)).map aa.str),.imm (([]:List (List UInt8)).map aa.str),.imm (([]:List Ex).map Ex.enc),.int .i64 0,.int .i64 0,.full [],.bool false,.int .i64 0,.str [],.int .i64 0,.full [],.full [],.int .i64 0,.str [],.int .i64 0,.str [],.full [],.full [],.full [],.int .i64 0,.int .i64 0,.full [],.int .i64 0,.int .i64 0,.int .i64 0]])) kq dE i5 dE rfl kq rfl rfl kq ⟨by decide,by kernel_rfl⟩ kq qg qg) ?_ ?_ ?_
 refine qr 1 ?_ ?_
 refine qe ?_ ?_
 refine ah ?_
 refine ab ?_
 refine qZ [(1,.imm (l.map (aa.int .i64))),(5,.own 0 0 ((mnL n l i).length+1)),(6,nI (mny (n))),(7,nI i)] [.arr 37 ((mnL n l i).map Dc.v++[.agg [.int .i64 1,.str ([116]++(am i)),.str [],.full [],.str ([116]++(am i)),.imm ((mnC false).map Co.v),.imm (([[105,100]]:List (List UInt8)).map aa.str),.imm (([]:List Rf).map Rf.v),.int .i64 2,.str [],.int .i64 1,.str [],.imm (([]:List (List UInt8)).map aa.str),.imm (([]:List (List UInt8)).map aa.str),.imm (([]:List Ex).map Ex.enc),.int .i64 0,.int .i64 0,.full [],.bool false,.int .i64 0,.str [],.int .i64 0,.full [],.full [],.int .i64 0,.str [],.int .i64 0,.str [],.full [],.full [],.full [],.int .i64 0,.int .i64 0,.full [],.int .i64 0,.int .i64 0,.int .i64 0]]) 0,.arr 6 [.agg [.str [105,100],.int .i64 0,.str [],.int .i64 0,.full [],.full []],.agg [.str [116,111],.int .i64 0,.str [],.int .i64 0,.full [],.full []]] 2,.box [.str ([116]++(am i)),.imm ((mnC false).map Co.v),.imm (([[105,100]]:List (List UInt8)).map aa.str),.imm (([]:List Rf).map Rf.v),.int .i64 2,.str [],.int .i64 1,.str [],.imm (([]:List (List UInt8)).map aa.str),.imm (([]:List (List UInt8)).map aa.str),.imm (([]:List Ex).map Ex.enc),.int .i64 0,.int .i64 0]] ?_ ?_
 refine em 0 (sz:=37) (fr:=0) (es:=((mnL n l i).map Dc.v++[.agg [.int .i64 1,.str ([116]++(am i)),.str [],.full [],.str ([116]++(am i)),.imm ((mnC false).map Co.v),.imm (([[105,100]]:List (List UInt8)).map aa.str),.imm (([]:List Rf).map Rf.v),.int .i64 2,.str [],.int .i64 1,.str [],.imm (([]:List (List UInt8)).map aa.str),.imm (([]:List (List UInt8)).map aa.str),.imm (([]:List Ex).map Ex.enc),.int .i64 0,.int .i64 0,.full [],.bool false,.int .i64 0,.str [],.int .i64 0,.full [],.full [],.int .i64 0,.str [],.int .i64 0,.str [],.full [],.full [],.full [],.int .i64 0,.int .i64 0,.full [],.int .i64 0,.int .i64 0,.int .i64 0]])) (((mnL n l i)++[(Dc.mk 1 ([116]++(am i)) (Sm.mk [] []) (Tb.mk ([116]++(am i)) (mnC false) ([[105,100]]:List (List UInt8)) ([]:List Rf) (Ex.mk 2 [] 1 [] ([]:List (List UInt8)) ([]:List (List UInt8)) ([]:List Ex) 0 0)) 0 0 0)]).map Dc.v) kq l3 xB ?_
 refine fX 5 (.own 0 0 ((mnL n l i).length+1)) (.own 0 0 ((mnL n l i)++[(Dc.mk 1 ([116]++(am i)) (Sm.mk [] []) (Tb.mk ([116]++(am i)) (mnC false) ([[105,100]]:List (List UInt8)) ([]:List Rf) (Ex.mk 2 [] 1 [] ([]:List (List UInt8)) ([]:List (List UInt8)) ([]:List Ex) 0 0)) 0 0 0)]).length) kq zq ?_
 refine qZ [(1,.imm (l.map (aa.int .i64))),(5,.own 0 0 ((mnL n l i)++[(Dc.mk 1 ([116]++(am i)) (Sm.mk [] []) (Tb.mk ([116]++(am i)) (mnC false) ([[105,100]]:List (List UInt8)) ([]:List Rf) (Ex.mk 2 [] 1 [] ([]:List (List UInt8)) ([]:List (List UInt8)) ([]:List Ex) 0 0)) 0 0 0)]).length),(6,nI (mny (n))),(7,nI i)] [.arr 37 (((mnL n l i)++[(Dc.mk 1 ([116]++(am i)) (Sm.mk [] []) (Tb.mk ([116]++(am i)) (mnC false) ([[105,100]]:List (List UInt8)) ([]:List Rf) (Ex.mk 2 [] 1 [] ([]:List (List UInt8)) ([]:List (List UInt8)) ([]:List Ex) 0 0)) 0 0 0)]).map Dc.v) 0,.arr 6 [.agg [.str [105,100],.int .i64 0,.str [],.int .i64 0,.full [],.full []],.agg [.str [116,111],.int .i64 0,.str [],.int .i64 0,.full [],.full []]] 2,.box [.str ([116]++(am i)),.imm ((mnC false).map Co.v),.imm (([[105,100]]:List (List UInt8)).map aa.str),.imm (([]:List Rf).map Rf.v),.int .i64 2,.str [],.int .i64 1,.str [],.imm (([]:List (List UInt8)).map aa.str),.imm (([]:List (List UInt8)).map aa.str),.imm (([]:List Ex).map Ex.enc),.int .i64 0,.int .i64 0]] ?_ ?_
 refine qo ?_ ?_
 refine qr 1 ?_ ?_
 refine qy (aI (a:=((i:Nat):Int)) (b:=1) kq oq oq) ?_ ?_ ?_
 refine qr 1 ?_ ?_
 refine qe ?_ ?_
 refine ab ⟨i+1,?_,?_,⟨⟨kq,(Eq.trans (b:=.own 0 0 ((mnL n l i)++[(Dc.mk 1 ([116]++(am i)) (Sm.mk [] []) (Tb.mk ([116]++(am i)) (mnC false) ([[105,100]]:List (List UInt8)) ([]:List Rf) (Ex.mk 2 [] 1 [] ([]:List (List UInt8)) ([]:List (List UInt8)) ([]:List Ex) 0 0)) 0 0 0)]).length) kq B7),kq,kq,trivial⟩,by simp [aG,aa.bel],by simp,(Eq.trans (b:=[.arr 37 (((mnL n l i)++[(Dc.mk 1 ([116]++(am i)) (Sm.mk [] []) (Tb.mk ([116]++(am i)) (mnC false) ([[105,100]]:List (List UInt8)) ([]:List Rf) (Ex.mk 2 [] 1 [] ([]:List (List UInt8)) ([]:List (List UInt8)) ([]:List Ex) 0 0)) 0 0 0)]).map Dc.v) 0]) kq B7),by simp [ai.belO,av,aB,aa.bel,Ty.v,Ex.v,Ct.v,Co.v,Rf.v,Sm.v,Tb.v_cs,Sc.v,Md.v,Pb.v,Ls.v,-List.map_take,-List.map_drop,-List.map_append]⟩⟩
 · omega
 · omega
 iterate 45 kernel_rfl
 refine qf (decide_eq_false hb1) ?_ ?_
 refine a6 0 kq kq ?_
 refine af ?_
 refine af ?_
 refine aE ?_
 refine ab ?_
 refine qz [(1,.imm (l.map (aa.int .i64))),(5,.own 0 0 (mnL n l i).length)] ?_ ?_
 refine fX 5 (.own 0 0 (mnL n l i).length) (.own 0 0 (mnL n l (mny n)).length) kq (by rw [show i=mny n by omega]) ?_
 refine em 0 (sz:=37) (fr:=0) (es:=((mnL n l i).map Dc.v)) ((mnL n l (mny n)).map Dc.v) kq zq (by rw [show i=mny n by omega];simp) ?_
 refine qZ [(1,.imm (l.map (aa.int .i64))),(5,.own 0 0 (mnL n l (mny n)).length)] [.arr 37 ((mnL n l (mny n)).map Dc.v) 0] ?_ ?_
 refine qV 2 ?_ ?_
 refine vZ (args:=[.own 0 0 (mnL n l (mny n)).length,.imm (l.map (aa.int .i64))]) (F:=[.arr 37 ((mnL n l (mny n)).map Dc.v) ((mnL n l (mny n)).map Dc.v).length]) kq kq kq kq (tK (mnL n l (mny n)) l (by rw [ga];omega) hl) [.arr 37 ((mnL n l (mny n)).map Dc.v) 0] kq (by simp [aZ,cY,aO,aa.frz,aa.owns]) iK (by simp [aZ,cY,aO,aa.frz,aa.owns]) ?_
 refine qR 1 [(11,.imm ((msM n l).map Md.v))] [.arr 37 ((mnL n l (mny n)).map Dc.v) ((mnL n l (mny n)).map Dc.v).length] ?_ ?_
 refine qV 1 ?_ ?_
 refine bj (args:=[.imm ((msM n l).map Md.v)]) kq kq kq kq (uE n l) iK iK l3 ?_
 refine qR 6 [(11,.imm ((msM n l).map Md.v)),(12,.ptr 1 0),(13,.imm ((stI cD db dr (msM n l) (msM n l).length).bp.2.map Pb.v))] [.arr 37 ((mnL n l (mny n)).map Dc.v) ((mnL n l (mny n)).map Dc.v).length,.box [.imm ((cf cD db dr (msM n l) []).sums.map Sm.v),.imm ((cf cD db dr (msM n l) []).tabs.map Tb.v)]] ?_ ?_
 refine qV 1 ?_ ?_
 refine bj (args:=[.imm ((msM n l).map Md.v)]) kq kq kq kq (rJ n l) iK iK l3 ?_
 refine qR 6 [(12,.ptr 1 0),(13,.imm ((stI cD db dr (msM n l) (msM n l).length).bp.2.map Pb.v)),(14,.ptr 2 0),(15,.imm ((stI cD db dr (msM n l) (msM n l).length).bp.2.map Pb.v))] [.arr 37 ((mnL n l (mny n)).map Dc.v) ((mnL n l (mny n)).map Dc.v).length,.box [.imm ((cf cD db dr (msM n l) []).sums.map Sm.v),.imm ((cf cD db dr (msM n l) []).tabs.map Tb.v)],.box [.imm ((cf cD db dr (msM n l) []).sums.map Sm.v),.imm ((cf cD db dr (msM n l) []).tabs.map Tb.v)]] ?_ ?_
 refine qV 2 ?_ ?_
 refine bj (args:=[.agg [.imm ((cf cD db dr (msM n l) []).sums.map Sm.v),.imm ((cf cD db dr (msM n l) []).tabs.map Tb.v)],.agg [.imm ((cf cD db dr (msM n l) []).sums.map Sm.v),.imm ((cf cD db dr (msM n l) []).tabs.map Tb.v)]]) kq kq kq kq (w5 n l) iK iK l3 ?_
 refine qr 3 ?_ ?_
 refine bj (args:=[.imm ((stI cD db dr (msM n l) (msM n l).length).bp.2.map Pb.v),.imm ((stI cD db dr (msM n l) (msM n l).length).bp.2.map Pb.v)]) kq kq kq kq (w9 n l) iK iK l3 ?_
 refine qr 2 ?_ ?_
 refine qc [] (sc) ?_ ?_
 refine qX 2 ?_ ?_
 refine a7 (b:=true) (.inr rfl) kq ?_
 · rfl
 iterate 27 kernel_rfl
end Go.Proofs.YtcpklndelobigaaGreatDoor
