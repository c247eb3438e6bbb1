/- The law SchemaMany. Condition: the numbers are numbers. -/
import Derived.Test.YtcpklndelobigaaGreatDoorMF
set_option linter.all false
namespace Go.Proofs.YtcpklndelobigaaGreatDoor
open Go.Proofs.YtcpklndelobigaaGreatDoor.Abs
set_option maxRecDepth 20000
set_option maxHeartbeats 4000000
theorem bm {f:Nat} {args:List aa} {v:aa} (h:(pI cx.P cx.G oV xp 60 false f args []).map (fun r=>r.1.frz r.2)=some v) (hb:v.bel 0=true):ao cx f args v:=by
 cases hx:pI cx.P cx.G oV xp 60 false f args [] with
 | none=>rw [hx] at h;cases h
 | some r =>
  rw [hx] at h
  exact fj (bq cxM bA b8 60 false f args [] r hx) (by rintro v' h' ⟨rfl,rfl⟩;exact Option.some.inj h) hb
def am (n:Nat):List UInt8:=bif Nat.blt n 10 then [UInt8.ofNat (48+n)] else [49,UInt8.ofNat (38+n)]
def aW (i:Nat):List UInt8:=[116]++am i
def mny (n:Int):Nat:=(dT n 13).toNat
def rK:Ty:=.mk 0 [] 0 [] []
def vC:Ty:=.mk 4 [] 0 [] []
def B4:Ex:=.mk 2 [] 1 [] [] [] [] 0 0
def mnC (b:Bool):List Co:=[⟨[105,100],rK⟩,⟨[116,111],bif b then vC else rK⟩]
def mnR (n:Int) (l:List Int) (i:Nat):List Rf:=if aJ l i ((2 * mny n:Nat):Int)<((mny n:Nat):Int) then [⟨[116,111],aW (aJ l i ((2 * mny n:Nat):Int)).toNat⟩] else []
def mnT (n:Int) (l:List Int) (i:Nat):Tb:=⟨aW i,mnC (decide (aJ l (i+1) 7=0)),[[105,100]],mnR n l i,B4⟩
def mnD (n:Int) (l:List Int) (i:Nat):Dc:=⟨1,aW i,Sm.zero,mnT n l i,0,0,0⟩
def mnL (n:Int) (l:List Int) (m:Nat):List Dc:=(List.range m).map (mnD n l)
theorem s9 (n:Int) (l:List Int) (m:Nat):mnL n l (m+1)=mnL n l m++[mnD n l m]:=by simp [mnL,List.range_succ]
theorem fU (n:Int) (l:List Int) (m:Nat):(mnL n l m).length=m:=by simp [mnL]
theorem yl (n:Int) (l:List Int) {m j:Nat} (h:j<m):(mnL n l m).getD j Dc.zero=mnD n l j:=by
 rw [bJ _ _ _ (by rw [fU];exact h)];simp [mnL]
theorem nO (n:Int):dT n 13=((mny n:Nat):Int)∧mny n<13:=by
 have:=lq n 13 dq
 unfold mny;omega
theorem u6 (n:Int) (hn:-9223372036854775808≤n∧n≤9223372036854775807):ao cx 13 [.int .i64 n,.int .i64 13] (.int .i64 ((mny n:Nat):Int)):=by
 have:=kF n 13 hn dq
 rwa [(nO n).1] at this
def cH (w:List UInt8):Bool:=!(w==[116,111])
theorem vE:∀ j,j<13→cH (aW j)=true:=by decide
theorem mW (n:Nat):(am n).length≤2:=by unfold am;cases Nat.blt n 10 <;> simp
def dc (t:Ty):Bool:=t.kind==0
def dp (_:Ex):Int:=0
theorem rT:ao cx 14 [.int .i64 0] (.str [48]):=bm kq rfl
theorem sf:ao cx 14 [.int .i64 1] (.str [49]):=bm kq rfl
theorem se:ao cx 14 [.int .i64 2] (.str [50]):=bm kq rfl
theorem rL:ao cx 14 [.int .i64 3] (.str [51]):=bm kq rfl
theorem r7:ao cx 14 [.int .i64 4] (.str [52]):=bm kq rfl
theorem rF:ao cx 14 [.int .i64 5] (.str [53]):=bm kq rfl
theorem sk:ao cx 14 [.int .i64 6] (.str [54]):=bm kq rfl
theorem rp:ao cx 14 [.int .i64 7] (.str [55]):=bm kq rfl
theorem ry:ao cx 14 [.int .i64 8] (.str [56]):=bm kq rfl
theorem rX:ao cx 14 [.int .i64 9] (.str [57]):=bm kq rfl
theorem oX:ao cx 14 [.int .i64 10] (.str [49,48]):=bm kq rfl
theorem pz:ao cx 14 [.int .i64 11] (.str [49,49]):=bm kq rfl
theorem qi:ao cx 14 [.int .i64 12] (.str [49,50]):=bm kq rfl
theorem m5:∀ (j:Nat),j<13→ao cx 14 [.int .i64 ((j:Nat):Int)] (.str (am j))
 | 0,_=>rT
 | 1,_=>sf
 | 2,_=>se
 | 3,_=>rL
 | 4,_=>r7
 | 5,_=>rF
 | 6,_=>sk
 | 7,_=>rp
 | 8,_=>ry
 | 9,_=>rX
 | 10,_=>oX
 | 11,_=>pz
 | 12,_=>qi
 | j+13,h=>absurd h oq
theorem zr:ao cx 70 [.int .i64 2,.str [116,48]] (.bool true):=bm kq rfl
theorem Ag:ao cx 70 [.int .i64 2,.str [116,49]] (.bool true):=bm kq rfl
theorem zQ:ao cx 70 [.int .i64 2,.str [116,50]] (.bool true):=bm kq rfl
theorem Al:ao cx 70 [.int .i64 2,.str [116,51]] (.bool true):=bm kq rfl
theorem zN:ao cx 70 [.int .i64 2,.str [116,52]] (.bool true):=bm kq rfl
theorem Aq:ao cx 70 [.int .i64 2,.str [116,53]] (.bool true):=bm kq rfl
theorem zF:ao cx 70 [.int .i64 2,.str [116,54]] (.bool true):=bm kq rfl
theorem Ar:ao cx 70 [.int .i64 2,.str [116,55]] (.bool true):=bm kq rfl
theorem zn:ao cx 70 [.int .i64 2,.str [116,56]] (.bool true):=bm kq rfl
theorem y9:ao cx 70 [.int .i64 2,.str [116,57]] (.bool true):=bm kq rfl
theorem xW:ao cx 70 [.int .i64 2,.str [116,49,48]] (.bool true):=bm kq rfl
theorem x5:ao cx 70 [.int .i64 2,.str [116,49,49]] (.bool true):=bm kq rfl
theorem xf:ao cx 70 [.int .i64 2,.str [116,49,50]] (.bool true):=bm kq rfl
theorem Bb:∀ (j:Nat),j<13→ao cx 70 [.int .i64 2,.str (aW j)] (.bool true)
 | 0,_=>zr
 | 1,_=>Ag
 | 2,_=>zQ
 | 3,_=>Al
 | 4,_=>zN
 | 5,_=>Aq
 | 6,_=>zF
 | 7,_=>Ar
 | 8,_=>zn
 | 9,_=>y9
 | 10,_=>xW
 | 11,_=>x5
 | 12,_=>xf
 | j+13,h=>absurd h oq
theorem Ao:ao cx 89 [.str [116,48]] (.bool true):=bm kq rfl
theorem zU:ao cx 89 [.str [116,49]] (.bool true):=bm kq rfl
theorem zZ:ao cx 89 [.str [116,50]] (.bool true):=bm kq rfl
theorem zc:ao cx 89 [.str [116,51]] (.bool true):=bm kq rfl
theorem z8:ao cx 89 [.str [116,52]] (.bool true):=bm kq rfl
theorem zV:ao cx 89 [.str [116,53]] (.bool true):=bm kq rfl
theorem Ak:ao cx 89 [.str [116,54]] (.bool true):=bm kq rfl
theorem Aj:ao cx 89 [.str [116,55]] (.bool true):=bm kq rfl
theorem zl:ao cx 89 [.str [116,56]] (.bool true):=bm kq rfl
theorem Aa:ao cx 89 [.str [116,57]] (.bool true):=bm kq rfl
theorem xv:ao cx 89 [.str [116,49,48]] (.bool true):=bm kq rfl
theorem xU:ao cx 89 [.str [116,49,49]] (.bool true):=bm kq rfl
theorem xP:ao cx 89 [.str [116,49,50]] (.bool true):=bm kq rfl
theorem Cq:∀ (j:Nat),j<13→ao cx 89 [.str (aW j)] (.bool true)
 | 0,_=>Ao
 | 1,_=>zU
 | 2,_=>zZ
 | 3,_=>zc
 | 4,_=>z8
 | 5,_=>zV
 | 6,_=>Ak
 | 7,_=>Aj
 | 8,_=>zl
 | 9,_=>Aa
 | 10,_=>xv
 | 11,_=>xU
 | 12,_=>xP
 | j+13,h=>absurd h oq
theorem xR:ao cx 70 [.int .i64 2,.str [105,100]] (.bool (cH [105,100])):=bm kq rfl
theorem wY:ao cx 89 [.str [105,100]] (.bool (cH [105,100])):=bm kq rfl
theorem tq:ao cx 70 [.int .i64 2,.str [116,111]] (.bool (cH [116,111])):=bm kq rfl
theorem sH:ao cx 89 [.str [116,111]] (.bool (cH [116,111])):=bm kq rfl
theorem tj:ao cx 136 [.imm [],.agg [.int .i64 0,.str [],.int .i64 0,.imm [],.imm []]] (.bool true):=bm kq rfl
theorem xY:ao cx 136 [.imm [],.agg [.int .i64 4,.str [],.int .i64 0,.imm [],.imm []]] (.bool false):=bm kq rfl
theorem pp:ao cx 92 [.imm [],.agg [.int .i64 0,.str [],.int .i64 0,.imm [],.imm []]] (.bool true):=bm kq rfl
theorem va:ao cx 92 [.imm [],.agg [.int .i64 4,.str [],.int .i64 0,.imm [],.imm []]] (.bool false):=bm kq rfl
theorem xI:ao cx 77 [.agg [.int .i64 2,.str [],.int .i64 1,.str [],.imm [],.imm [],.imm [],.int .i64 0,.int .i64 0]] (.int .i64 0):=bm kq rfl
theorem vq:ao cx 90 [.agg [.int .i64 2,.str [],.int .i64 1,.str [],.imm [],.imm [],.imm [],.int .i64 0,.int .i64 0]] (.int .i64 0):=bm kq rfl
theorem uL:ao cx 81 [.agg [.int .i64 2,.str [],.int .i64 1,.str [],.imm [],.imm [],.imm [],.int .i64 0,.int .i64 0]] (.agg [.int .i64 2,.str [],.int .i64 1,.str [],.imm [],.imm [],.imm [],.int .i64 0,.int .i64 0]):=bm kq rfl
theorem vf (j:Nat):(aW j).length≤3:=by
 have:=mW j
 unfold aW;simp;omega
theorem x4 {b:Bool} {c:Co} (h:c∈mnC b):c.type=rK∨c.type=vC:=by
 simp only [mnC,List.mem_cons,List.not_mem_nil,or_false] at h
 rcases h with rfl|rfl
 · exact .inl rfl
 · cases b
   · exact .inl rfl
   · exact .inr rfl
theorem nN (n:Int) (l:List Int) {j i:Nat} (hi:i<13):(mdX (mnD n l j) i).ok:=by
 refine ⟨Nat.lt_of_le_of_lt (vf j) dq,⟨by show -1000000000000≤10 * ((i:Nat):Int)+6;omega,by show 10 * ((i:Nat):Int)+6≤1000000000000;omega⟩,⟨by show 2≤100;decide,by show 1≤100;decide,?_,?_⟩⟩
 · show (mnR n l j).length≤100
   unfold mnR;split <;> simp
 · intro c hc
   rcases x4 hc with e|e <;> rw [e] <;> decide
theorem jr {P:Co→Prop} (b:Bool) (h0:P ⟨[105,100],rK⟩) (h1:P ⟨[116,111],vC⟩) (h2:P ⟨[116,111],rK⟩) (q:Nat) (hq:q<(mnC b).length):P ((mnC b).getD q Co.zero):=by
 match q,hq with
 | 0,_=>exact h0
 | 1,_=>cases b;exact h2;exact h1
 | q+2,h=>exact absurd h (by cases b <;> simp [mnC])
theorem uE (n:Int) (l:List Int) {j i:Nat} (hj:j<13) (hi:i<13):BK [] cH dc dp (mdX (mnD n l j) i) :=
 ⟨nN n l hi,fun q hq=>jr (P:=fun c=>ao cx 70 [.int .i64 2,.str c.name] (.bool (cH c.name))) _ xR tq tq q hq,
  fun q hq=>jr (P:=fun c=>ao cx 136 [.imm (([]:List Sm).map Sm.v),c.type.v] (.bool (dc c.type))) _ tj xY tj q hq,by have:=Bb j hj;rwa [← vE j hj] at this,xI,uL⟩
theorem qI (n:Int) (l:List Int) {j i:Nat} (hj:j<13) (hi:i<13):sV [] cH dc dp (mdX (mnD n l j) i) :=
 ⟨nN n l hi,fun q hq=>jr (P:=fun c=>ao cx 89 [.str c.name] (.bool (cH c.name))) _ wY sH sH q hq,
  fun q hq=>jr (P:=fun c=>ao cx 92 [.imm (([]:List Sm).map Sm.v),c.type.v] (.bool (dc c.type))) _ pp va pp q hq,by have:=Cq j hj;rwa [← vE j hj] at this,vq⟩
abbrev msM (n:Int) (l:List Int):List Md:=nS (mnL n l (mny n)) l
theorem ld (n:Int) (l:List Int) (i:Nat) (hi:i<(msM n l).length) (k:Nat) (hk:k<((msM n l).getD i Md.zero).decls.length):∃ j q,j<13∧q<13∧dcl (msM n l) i k=mdX (mnD n l j) q:=by
 have hm:=c5 ((msM n l).getD i Md.zero).decls Dc.zero k hk
 have hor:((msM n l).getD i Md.zero).decls.getD k Dc.zero∈(mdS (mnL n l (mny n)) l (mnL n l (mny n)).length).1∨((msM n l).getD i Md.zero).decls.getD k Dc.zero∈(mdS (mnL n l (mny n)) l (mnL n l (mny n)).length).2:=by
  match i,hi with
  | 0,_=>exact .inl hm
  | 1,_=>exact .inr hm
  | i+2,h=>exact absurd h (by simp [msM,nS])
 obtain ⟨j,h1,h2⟩:=s4 _ _ _ _ hor
 rw [fU] at h1
 rw [yl n l h1] at h2
 have:=(nO n).2
 exact ⟨j,j,by omega,by omega,h2⟩
theorem dD (n:Int) (l:List Int):gI [] cH dc dp (msM n l):=by
 refine ⟨Nat.le_refl _,fun i=>?_,fun i hi k hk=>?_⟩
 · have h:=oG (mnL n l (mny n)) l (mnL n l (mny n)).length
   rw [fU] at h
   have h13:=(nO n).2
   match i with
   | 0=>show (mdS (mnL n l (mny n)) l (mnL n l (mny n)).length).1.length≤40;rw [fU];omega
   | 1=>show (mdS (mnL n l (mny n)) l (mnL n l (mny n)).length).2.length≤40;rw [fU];omega
   | i+2=>show (0:Nat)≤40;decide
 · obtain ⟨j,q,h1,h2,h3⟩:=ld n l i hi k hk
   have h3':((msM n l).getD i Md.zero).decls.getD k Dc.zero=mdX (mnD n l j) q:=h3
   rw [h3'];exact uE n l h1 h2
theorem q9 (n:Int) (l:List Int):th [] cH dc dp (msM n l):=by
 refine ⟨fun i hi k hk=>?_⟩
 obtain ⟨j,q,h1,h2,h3⟩:=ld n l i hi k hk
 have h3':((msM n l).getD i Md.zero).decls.getD k Dc.zero=mdX (mnD n l j) q:=h3
 rw [h3'];exact qI n l h1 h2
theorem nd (n:Int) (l:List Int):∀ i,i<(msM n l).length→∀ k,k<((msM n l).getD i Md.zero).decls.length→(dcl (msM n l) i k).kind=1:=by
 intro i hi k hk
 obtain ⟨j,q,h1,h2,h3⟩:=ld n l i hi k hk
 rw [h3];rfl
theorem xt (n:Int) (l:List Int):(ce cH dc dp (msM n l) []).sm:=by
 refine xZ dq (fun x hx=>by cases hx) fun i hi k hk=>?_
 obtain ⟨j,q,h1,h2,h3⟩:=ld n l i hi k hk
 rw [h3]
 have ho:=(nN n l (j:=j) h2).t
 exact ⟨Nat.lt_of_le_of_lt ho.c dq,fun c hc=>ho.z c hc,Nat.lt_of_le_of_lt ho.k dq,Nat.lt_of_le_of_lt ho.r dq,by show B4.sz<100000000;decide⟩
theorem uq (n:Int) (l:List Int):ao cx 7 [.imm ((msM n l).map Md.v)] (.tup [(ce cH dc dp (msM n l) []).v,.imm ((stI cH dc dp (msM n l) (msM n l).length).bp.2.map Pb.v)]) :=
 uA cH dc dp [] (msM n l) (dD n l) (uf (msM n l) (dD n l).n (dD n l).m (nd n l))
theorem rc (n:Int) (l:List Int):ao cx 8 [.imm ((msM n l).map Md.v)] (.tup [(ce cH dc dp (msM n l) []).v,.imm ((stI cH dc dp (msM n l) (msM n l).length).bp.2.map Pb.v)]):=by
 have:=rH cH dc dp [] (msM n l) (dD n l) (q9 n l) (rt (msM n l) (dD n l).n (dD n l).m (nd n l))
 rw [(ns (sums:=([]:List Sm))).1,(ns (sums:=([]:List Sm))).2] at this
 exact this
theorem yn (n:Int) (l:List Int):ao cx 10 [.imm ((stI cH dc dp (msM n l) (msM n l).length).bp.2.map Pb.v),.imm ((stI cH dc dp (msM n l) (msM n l).length).bp.2.map Pb.v)] (.bool true):=by
 refine rn _ ?_ fun p hp=>Nat.lt_of_le_of_lt (yS _ p hp) dq
 have h1:=nL (dD n l) (msM n l).length (Nat.le_refl _)
 have h2:=(dD n l).n
 omega
theorem wv (k:Int) (h0:0≤k) (h1:k<13):ao cx 14 [.int .i64 k] (.str (am k.toNat)):=by
 have:=m5 k.toNat oq
 rwa [show ((k.toNat:Nat):Int)=k by omega] at this
theorem xC (n:Int) (l:List Int):ao cx 9 [(ce cH dc dp (msM n l) []).v,(ce cH dc dp (msM n l) []).v] (.bool true):=by
 have:=ph (ce cH dc dp (msM n l) []) (ce cH dc dp (msM n l) []) (xt n l)
 rwa [Sc.beq_refl] at this
noncomputable def c4:Code:=aT Tryz.f4
theorem iM {p:Prop} (h:p:=by simp [Ty.v,Ex.v,Ct.v,Co.v,Rf.v,Sm.v,Tb.v_cs,Sc.v,Md.v,Pb.v,Ls.v,-List.map_take,-List.map_drop,-List.map_append]):p:=h
theorem lv {p:Prop} (h:p:=by simp [fA,aO,aa.owns,Ty.v,Ex.v,Ct.v,Co.v,Rf.v,Sm.v,Tb.v_cs,Sc.v,Md.v,Pb.v,Ls.v,-List.map_take,-List.map_drop,-List.map_append]):p:=h
theorem yc {p:Prop} (h:p:=by simp [j8,aZ,aa.frz,List.map_append,Dc.v,Dc.cs,Ex.kind,Ex.name,Ex.n,Ex.s,Ex.names,Ex.binds,Ex.kids,Ex.pos,Ex.fin,Ty.v,Ex.v,Ct.v,Co.v,Rf.v,Sm.v,Tb.v_cs,Sc.v,Md.v,Pb.v,Ls.v,-List.map_take,-List.map_drop]):p:=h
theorem ir {p:Prop} (h:p:=by simp [List.set,aa.frz,aZ]):p:=h
theorem iv {p:Prop} (h:p:=by simp [aa.owns,aO]):p:=h
theorem w3 {p:Prop} (h:p:=by simp [List.set,aa.frz,aZ,mnC,Co.v,rK,vC,Ty.kind,Ty.name,Ty.n,Ty.names,Ty.kids, *]):p:=h
theorem yf {p:Prop} (h:p:=by simp [aa.owns,aO,mnC,Co.v,rK,vC,Ty.kind,Ty.name,Ty.n,Ty.names,Ty.kids, *]):p:=h
theorem Bo {p:Prop} (h:p:=by have h1:=hdl i;have h2:=hdl (aJ l i (((2 * mny n:Nat):Int))).toNat;simp only [List.length_append,List.length_cons,List.length_nil];omega):p:=h
theorem xL {p:Prop} (h:p:=by simp [List.set,aa.frz,aZ,Rf.v,aW, *]):p:=h
theorem xV {p:Prop} (h:p:=by simp [aa.owns,aO,Rf.v,aW, *]):p:=h
theorem Bv {p:Prop} (h:p:=by rw [s9,mnD,mnT,mnR,if_pos aq,decide_eq_false aq] <;> (show _=_;kernel_rfl)):p:=h
theorem Bc {p:Prop} (h:p:=by rw [s9,mnD,mnT,mnR,if_neg aq,decide_eq_false aq] <;> (show _=_;kernel_rfl)):p:=h
theorem AN {p:Prop} (h:p:=by rw [s9,mnD,mnT,mnR,if_pos aq,decide_eq_true aq] <;> (show _=_;kernel_rfl)):p:=h
theorem AL {p:Prop} (h:p:=by rw [s9,mnD,mnT,mnR,if_neg aq,decide_eq_true aq] <;> (show _=_;kernel_rfl)):p:=h
theorem oY {p:Prop} (h:p:=by simp;omega):p:=h
theorem tX (n:Int) (l:List Int) (hnn:-9223372036854775808≤n∧n≤9223372036854775807) (hl:my l):ao cx 4 [.int .i64 (n),.imm (l.map (aa.int .i64))] (.bool true):=by
 have hm13:=(nO n).2
 have hdl:=fun k=>mW k
 refine aC (cx:=cx) 87 0 [(ResultVar.tmp 4)] Tryz.func4 rfl rfl rfl rfl rfl zq ?_
 show wpA cx 87 0 (at_ c4 []) _ _ _
 refine qZ [(0,.int .i64 (n)),(1,.imm (l.map (aa.int .i64)))] [] ?_ ?_
 refine qU 1 [(0,.int .i64 (n)),(1,.imm (l.map (aa.int .i64)))] ?_ ?_
 refine qU 1 [(0,.int .i64 (n)),(1,.imm (l.map (aa.int .i64))),(5,.full [])] ?_ ?_
 refine lU 5 37 dq kq ?_
 refine qZ [(0,.int .i64 (n)),(1,.imm (l.map (aa.int .i64))),(5,.own 0 0 0)] [.arr 37 (([]:List (Dc)).map Dc.v) 0] ?_ ?_
 refine qV 1 ?_ ?_
 refine qc [.int .i64 (n),.int .i64 13] (u6 (n) hnn) ?_ ?_
 refine qR 1 [(1,.imm (l.map (aa.int .i64))),(5,.own 0 0 0),(6,nI (mny (n)))] [.arr 37 (([]:List (Dc)).map Dc.v) 0] ?_ ?_
 refine az ?_ ?_
 refine qU 1 [(1,.imm (l.map (aa.int .i64))),(5,.own 0 0 0),(6,nI (mny (n))),(7,.int .i64 0)] ?_ ?_
 refine qB 0 ?_ ?_ ?_
 refine bn (σ:=Nat) (fun i=>[(1,.imm (l.map (aa.int .i64))),(5,.own 0 0 (mnL n l i).length),(6,.int .i64 ((mny (n):Nat):Int)),(7,.int .i64 ((i:Nat):Int))]) (fun i=>[.arr 37 ((mnL n l i).map Dc.v) 0]) (fun i=>i≤mny n) (fun i=>mny n - i) 0 kq (by exact Nat.zero_le _) ⟨⟨kq,(Eq.trans (b:=.own 0 0 0) kq kq),kq,kq,trivial⟩,by simp [aG,aa.bel],by simp,(Eq.trans (b:=[.arr 37 (([]:List (Dc)).map Dc.v) 0]) kq kq),by simp [ai.belO,av,aB,aa.bel,Ty.v,Ex.v,Ct.v,Co.v,Rf.v,Sm.v,Tb.v_cs,Sc.v,Md.v,Pb.v,Ls.v,-List.map_take,-List.map_drop,-List.map_append]⟩ ?_
 rintro i hi
 have hml:=fU n l i
 refine az ?_ ?_
 refine qW 3 [(1,.imm (l.map (aa.int .i64))),(5,.own 0 0 (mnL n l i).length),(6,nI (mny (n))),(7,nI i),(20,.bool (decide (((i:Nat):Int)<((mny (n):Nat):Int))))] [.arr 37 ((mnL n l i).map Dc.v) 0] ?_ ?_
 by_cases hb1:((i:Nat):Int)<((mny (n):Nat):Int)
 refine qt (decide_eq_true hb1) ?_ ?_
 refine qK ?_ ?_
 refine qz [(1,.imm (l.map (aa.int .i64))),(5,.own 0 0 (mnL n l i).length),(6,nI (mny (n))),(7,nI i)] ?_ ?_
 refine az ?_ ?_
 refine qB 1 ?_ ?_ ?_
 refine qV 1 ?_ ?_
 refine qc [.int .i64 ((i:Nat):Int)] (m5 i oq) ?_ ?_
 refine qy (yN (a:=[116]) (b:=(am i)) kq Bo) ?_ ?_ ?_
 refine qR 1 [(1,.imm (l.map (aa.int .i64))),(5,.own 0 0 (mnL n l i).length),(6,nI (mny (n))),(7,nI i),(8,.str ([116]++(am i)))] [.arr 37 ((mnL n l i).map Dc.v) 0] ?_ ?_
 refine qV 3 ?_ ?_
 refine AH (r:=(.full [.agg [.str [105,100],.int .i64 0,.str [],.int .i64 0,.full [],.full []],.agg [.str [116,111],.int .i64 0,.str [],.int .i64 0,.full [],.full []]],[.arr 37 ((mnL n l i).map Dc.v) 0])) (q:=(.own 1 0 2,[.arr 37 ((mnL n l i).map Dc.v) 0,.arr 6 [.agg [.str [105,100],.int .i64 0,.str [],.int .i64 0,.full [],.full []],.agg [.str [116,111],.int .i64 0,.str [],.int .i64 0,.full [],.full []]] 0])) kq kq kq kq ?_
 refine qR 5 [(1,.imm (l.map (aa.int .i64))),(5,.own 0 0 (mnL n l i).length),(6,nI (mny (n))),(7,nI i),(8,.str ([116]++(am i))),(9,.ptr 2 0)] [.arr 37 ((mnL n l i).map Dc.v) 0,.arr 6 [.agg [.str [105,100],.int .i64 0,.str [],.int .i64 0,.full [],.full []],.agg [.str [116,111],.int .i64 0,.str [],.int .i64 0,.full [],.full []]] 0,.box [.str ([116]++(am i)),.own 1 0 2,.full [.str [105,100]],.full [],.int .i64 2,.str [],.int .i64 1,.str [],.full [],.full [],.full [],.int .i64 0,.int .i64 0]] ?_ ?_
 refine qV 3 ?_ ?_
 refine qy (sR (a:=2) (b:=((mny (n):Nat):Int)) kq oq oq) ?_ ?_ ?_
 refine bj (args:=[.imm (l.map (aa.int .i64)),.int .i64 ((i:Nat):Int),.int .i64 (((2 * mny (n)):Nat):Int)]) kq kq kq kq (d8 l i ((((2 * mny (n)):Nat):Int)) hl oq) iM iM lv ?_
 have hv2:=pG l i ((((2 * mny (n)):Nat):Int)) oq
 refine qR 1 [(1,.imm (l.map (aa.int .i64))),(5,.own 0 0 (mnL n l i).length),(6,nI (mny (n))),(7,nI i),(8,.str ([116]++(am i))),(9,.ptr 2 0),(10,.int .i64 (aJ l i ((((2 * mny (n)):Nat):Int))))] [.arr 37 ((mnL n l i).map Dc.v) 0,.arr 6 [.agg [.str [105,100],.int .i64 0,.str [],.int .i64 0,.full [],.full []],.agg [.str [116,111],.int .i64 0,.str [],.int .i64 0,.full [],.full []]] 0,.box [.str ([116]++(am i)),.own 1 0 2,.full [.str [105,100]],.full [],.int .i64 2,.str [],.int .i64 1,.str [],.full [],.full [],.full [],.int .i64 0,.int .i64 0]] ?_ ?_
 refine az ?_ ?_
 refine qU 3 [(1,.imm (l.map (aa.int .i64))),(5,.own 0 0 (mnL n l i).length),(6,nI (mny (n))),(7,nI i),(8,.str ([116]++(am i))),(9,.ptr 2 0),(10,.int .i64 (aJ l i ((((2 * mny (n)):Nat):Int)))),(40,.bool (decide ((aJ l i ((((2 * mny (n)):Nat):Int)))<((mny (n):Nat):Int))))] ?_ ?_
 by_cases hb3:(aJ l i ((((2 * mny (n)):Nat):Int)))<((mny (n):Nat):Int)
 refine qt (decide_eq_true hb3) ?_ ?_
 refine qo ?_ ?_
 refine qr 1 ?_ ?_
 refine qc [.int .i64 (aJ l i ((((2 * mny (n)):Nat):Int)))] (wv (aJ l i ((((2 * mny (n)):Nat):Int))) oq oq) ?_ ?_
 refine qy (yN (a:=[116]) (b:=(am ((aJ l i ((((2 * mny (n)):Nat):Int)))).toNat)) kq Bo) ?_ ?_ ?_
 refine qR 4 [(1,.imm (l.map (aa.int .i64))),(5,.own 0 0 (mnL n l i).length),(6,nI (mny (n))),(7,nI i),(8,.str ([116]++(am i))),(9,.ptr 2 0)] [.arr 37 ((mnL n l i).map Dc.v) 0,.arr 6 [.agg [.str [105,100],.int .i64 0,.str [],.int .i64 0,.full [],.full []],.agg [.str [116,111],.int .i64 0,.str [],.int .i64 0,.full [],.full []]] 0,.box [.str ([116]++(am i)),.own 1 0 2,.full [.str [105,100]],.full [.agg [.str [116,111],.str ([116]++(am ((aJ l i ((((2 * mny (n)):Nat):Int)))).toNat))]],.int .i64 2,.str [],.int .i64 1,.str [],.full [],.full [],.full [],.int .i64 0,.int .i64 0]] ?_ ?_
 refine az ?_ ?_
 refine qV 2 ?_ ?_
 refine qy (aI (a:=((i:Nat):Int)) (b:=1) kq oq oq) ?_ ?_ ?_
 refine bj (args:=[.imm (l.map (aa.int .i64)),.int .i64 (((i+1):Nat):Int),.int .i64 7]) kq kq kq kq (d8 l (i+1) 7 hl dq) iM iM lv ?_
 refine qR 1 [(1,.imm (l.map (aa.int .i64))),(5,.own 0 0 (mnL n l i).length),(6,nI (mny (n))),(7,nI i),(8,.str ([116]++(am i))),(9,.ptr 2 0),(51,.bool ((aJ l (i+1) 7)==0))] [.arr 37 ((mnL n l i).map Dc.v) 0,.arr 6 [.agg [.str [105,100],.int .i64 0,.str [],.int .i64 0,.full [],.full []],.agg [.str [116,111],.int .i64 0,.str [],.int .i64 0,.full [],.full []]] 0,.box [.str ([116]++(am i)),.own 1 0 2,.full [.str [105,100]],.full [.agg [.str [116,111],.str ([116]++(am ((aJ l i ((((2 * mny (n)):Nat):Int)))).toNat))]],.int .i64 2,.str [],.int .i64 1,.str [],.full [],.full [],.full [],.int .i64 0,.int .i64 0]] ?_ ?_
 by_cases hb4:(aJ l (i+1) 7)=0
 refine qt (beq_iff_eq.2 hb4) ?_ ?_
 refine qo ?_ ?_
 refine qR 6 [(1,.imm (l.map (aa.int .i64))),(5,.own 0 0 (mnL n l i).length),(6,nI (mny (n))),(7,nI i),(8,.str ([116]++(am i))),(9,.ptr 2 0)] [.arr 37 ((mnL n l i).map Dc.v) 0,.arr 6 [.agg [.str [105,100],.int .i64 0,.str [],.int .i64 0,.full [],.full []],.agg [.str [116,111],.int .i64 4,.str [],.int .i64 0,.full [],.full []]] 0,.box [.str ([116]++(am i)),.own 1 0 2,.full [.str [105,100]],.full [.agg [.str [116,111],.str ([116]++(am ((aJ l i ((((2 * mny (n)):Nat):Int)))).toNat))]],.int .i64 2,.str [],.int .i64 1,.str [],.full [],.full [],.full [],.int .i64 0,.int .i64 0]] ?_ ?_
 refine sy 2 1 1 (cs:=[.str ([116]++(am i)),.own 1 0 2,.full [.str [105,100]],.full [.agg [.str [116,111],.str ([116]++(am ((aJ l i ((((2 * mny (n)):Nat):Int)))).toNat))]],.int .i64 2,.str [],.int .i64 1,.str [],.full [],.full [],.full [],.int .i64 0,.int .i64 0]) (es:=[.agg [.str [105,100],.int .i64 0,.str [],.int .i64 0,.full [],.full []],.agg [.str [116,111],.int .i64 4,.str [],.int .i64 0,.full [],.full []]]) (off:=0) (len:=2) (sz:=6) (fr:=0) [.str ([116]++(am i)),.imm [.agg [.str [105,100],.int .i64 0,.str [],.int .i64 0,.full [],.full []],.agg [.str [116,111],.int .i64 4,.str [],.int .i64 0,.full [],.full []]],.full [.str [105,100]],.full [.agg [.str [116,111],.str ([116]++(am ((aJ l i ((((2 * mny (n)):Nat):Int)))).toNat))]],.int .i64 2,.str [],.int .i64 1,.str [],.full [],.full [],.full [],.int .i64 0,.int .i64 0] [.agg [.str [105,100],.int .i64 0,.str [],.int .i64 0,.full [],.full []],.agg [.str [116,111],.int .i64 4,.str [],.int .i64 0,.full [],.full []]] dq kq kq kq zq kq kq ?_
 refine cd 2 1 (cs:=[.str ([116]++(am i)),.imm [.agg [.str [105,100],.int .i64 0,.str [],.int .i64 0,.full [],.full []],.agg [.str [116,111],.int .i64 4,.str [],.int .i64 0,.full [],.full []]],.full [.str [105,100]],.full [.agg [.str [116,111],.str ([116]++(am ((aJ l i ((((2 * mny (n)):Nat):Int)))).toNat))]],.int .i64 2,.str [],.int .i64 1,.str [],.full [],.full [],.full [],.int .i64 0,.int .i64 0]) (y:=.imm [.agg [.str [105,100],.int .i64 0,.str [],.int .i64 0,.full [],.full []],.agg [.str [116,111],.int .i64 4,.str [],.int .i64 0,.full [],.full []]]) [.str ([116]++(am i)),.imm ((mnC true).map Co.v),.full [.str [105,100]],.full [.agg [.str [116,111],.str ([116]++(am ((aJ l i ((((2 * mny (n)):Nat):Int)))).toNat))]],.int .i64 2,.str [],.int .i64 1,.str [],.full [],.full [],.full [],.int .i64 0,.int .i64 0] kq kq yf w3 ?_
 refine cd 2 2 (cs:=[.str ([116]++(am i)),.imm ((mnC true).map Co.v),.full [.str [105,100]],.full [.agg [.str [116,111],.str ([116]++(am ((aJ l i ((((2 * mny (n)):Nat):Int)))).toNat))]],.int .i64 2,.str [],.int .i64 1,.str [],.full [],.full [],.full [],.int .i64 0,.int .i64 0]) (y:=.full [.str [105,100]]) [.str ([116]++(am i)),.imm ((mnC true).map Co.v),.imm (([[105,100]]:List (List UInt8)).map aa.str),.full [.agg [.str [116,111],.str ([116]++(am ((aJ l i ((((2 * mny (n)):Nat):Int)))).toNat))]],.int .i64 2,.str [],.int .i64 1,.str [],.full [],.full [],.full [],.int .i64 0,.int .i64 0] kq kq iv ir ?_
 refine cd 2 3 (cs:=[.str ([116]++(am i)),.imm ((mnC true).map Co.v),.imm (([[105,100]]:List (List UInt8)).map aa.str),.full [.agg [.str [116,111],.str ([116]++(am ((aJ l i ((((2 * mny (n)):Nat):Int)))).toNat))]],.int .i64 2,.str [],.int .i64 1,.str [],.full [],.full [],.full [],.int .i64 0,.int .i64 0]) (y:=.full [.agg [.str [116,111],.str ([116]++(am ((aJ l i ((((2 * mny (n)):Nat):Int)))).toNat))]]) [.str ([116]++(am i)),.imm ((mnC true).map Co.v),.imm (([[105,100]]:List (List UInt8)).map aa.str),.imm (([⟨[116,111],aW (aJ l i (((2 * mny n:Nat):Int))).toNat⟩]:List Rf).map Rf.v),.int .i64 2,.str [],.int .i64 1,.str [],.full [],.full [],.full [],.int .i64 0,.int .i64 0] kq kq xV xL ?_
 refine cd 2 8 (cs:=[.str ([116]++(am i)),.imm ((mnC true).map Co.v),.imm (([[105,100]]:List (List UInt8)).map aa.str),.imm (([⟨[116,111],aW (aJ l i (((2 * mny n:Nat):Int))).toNat⟩]:List Rf).map Rf.v),.int .i64 2,.str [],.int .i64 1,.str [],.full [],.full [],.full [],.int .i64 0,.int .i64 0]) (y:=.full []) [.str ([116]++(am i)),.imm ((mnC true).map Co.v),.imm (([[105,100]]:List (List UInt8)).map aa.str),.imm (([⟨[116,111],aW (aJ l i (((2 * mny n:Nat):Int))).toNat⟩]:List Rf).map Rf.v),.int .i64 2,.str [],.int .i64 1,.str [],.imm (([]:List (List UInt8)).map aa.str),.full [],.full [],.int .i64 0,.int .i64 0] kq kq iv ir ?_
 refine cd 2 9 (cs:=[.str ([116]++(am i)),.imm ((mnC true).map Co.v),.imm (([[105,100]]:List (List UInt8)).map aa.str),.imm (([⟨[116,111],aW (aJ l i (((2 * mny n:Nat):Int))).toNat⟩]:List Rf).map Rf.v),.int .i64 2,.str [],.int .i64 1,.str [],.imm (([]:List (List UInt8)).map aa.str),.full [],.full [],.int .i64 0,.int .i64 0]) (y:=.full []) [.str ([116]++(am i)),.imm ((mnC true).map Co.v),.imm (([[105,100]]:List (List UInt8)).map aa.str),.imm (([⟨[116,111],aW (aJ l i (((2 * mny n:Nat):Int))).toNat⟩]:List Rf).map Rf.v),.int .i64 2,.str [],.int .i64 1,.str [],.imm (([]:List (List UInt8)).map aa.str),.imm (([]:List (List UInt8)).map aa.str),.full [],.int .i64 0,.int .i64 0] kq kq iv ir ?_
 refine cd 2 10 (cs:=[.str ([116]++(am i)),.imm ((mnC true).map Co.v),.imm (([[105,100]]:List (List UInt8)).map aa.str),.imm (([⟨[116,111],aW (aJ l i (((2 * mny n:Nat):Int))).toNat⟩]:List Rf).map Rf.v),.int .i64 2,.str [],.int .i64 1,.str [],.imm (([]:List (List UInt8)).map aa.str),.imm (([]:List (List UInt8)).map aa.str),.full [],.int .i64 0,.int .i64 0]) (y:=.full []) [.str ([116]++(am i)),.imm ((mnC true).map Co.v),.imm (([[105,100]]:List (List UInt8)).map aa.str),.imm (([⟨[116,111],aW (aJ l i (((2 * mny n:Nat):Int))).toNat⟩]:List Rf).map Rf.v),.int .i64 2,.str [],.int .i64 1,.str [],.imm (([]:List (List UInt8)).map aa.str),.imm (([]:List (List UInt8)).map aa.str),.imm (([]:List Ex).map Ex.enc),.int .i64 0,.int .i64 0] kq kq iv ir ?_
 refine qZ [(1,.imm (l.map (aa.int .i64))),(5,.own 0 0 (mnL n l i).length),(6,nI (mny (n))),(7,nI i),(8,.str ([116]++(am i))),(9,.ptr 2 0)] [.arr 37 ((mnL n l i).map Dc.v) 0,.arr 6 [.agg [.str [105,100],.int .i64 0,.str [],.int .i64 0,.full [],.full []],.agg [.str [116,111],.int .i64 4,.str [],.int .i64 0,.full [],.full []]] 2,.box [.str ([116]++(am i)),.imm ((mnC true).map Co.v),.imm (([[105,100]]:List (List UInt8)).map aa.str),.imm (([⟨[116,111],aW (aJ l i (((2 * mny n:Nat):Int))).toNat⟩]:List Rf).map Rf.v),.int .i64 2,.str [],.int .i64 1,.str [],.imm (([]:List (List UInt8)).map aa.str),.imm (([]:List (List UInt8)).map aa.str),.imm (([]:List Ex).map Ex.enc),.int .i64 0,.int .i64 0]] ?_ ?_
 refine qo ?_ ?_
 refine qr 5 ?_ ?_
 refine qY (bL (o:=0) (len:=((mnL n l i).length)) (l:=(mnL n l i)) (xs:=[.agg [.int .i64 1,.str ([116]++(am i)),.str [],.full [],.str ([116]++(am i)),.imm ((mnC true).map Co.v),.imm (([[105,100]]:List (List UInt8)).map aa.str),.imm (([⟨[116,111],aW (aJ l i (((2 * mny n:Nat):Int))).toNat⟩]:List Rf).map Rf.v),.int .i64 2,.str [],.int .i64 1,.str [],.imm (([]:List (List UInt8)).map aa.str),.imm (([]:List (List UInt8)).map aa.str),.imm (([]:List Ex).map Ex.enc),.int .i64 0,.int .i64 0,.full [],.bool false,.int .i64 0,.str [],.int .i64 0,.full [],.full [],.int .i64 0,.str [],.int .i64 0,.str [],.full [],.full [],.full [],.int .i64 0,.int .i64 0,.full [],.int .i64 0,.int .i64 0,.int .i64 0]]) (enc:=Dc.v) (sz:=37) (fr:=0) (x:=(.full [.agg [.int .i64 1,.str ([116]++(am i)),.str [],.full [],.str ([116]++(am i)),.imm ((mnC true).map Co.v),.imm (([[105,100]]:List (List UInt8)).map aa.str),.imm (([⟨[116,111],aW (aJ l i (((2 * mny n:Nat):Int))).toNat⟩]:List Rf).map Rf.v),.int .i64 2,.str [],.int .i64 1,.str [],.imm (([]:List (List UInt8)).map aa.str),.imm (([]:List (List UInt8)).map aa.str),.imm (([]:List Ex).map Ex.enc),.int .i64 0,.int .i64 0,.full [],.bool false,.int .i64 0,.str [],.int .i64 0,.full [],.full [],.int .i64 0,.str [],.int .i64 0,.str [],.full [],.full [],.full [],.int .i64 0,.int .i64 0,.full [],.int .i64 0,.int .i64 0,.int .i64 0]])) kq dG iV dG rfl kq rfl rfl kq ⟨by decide,by kernel_rfl⟩ kq oY oY) ?_ ?_ ?_
 refine qr 1 ?_ ?_
 refine qe ?_ ?_
 refine ah ?_
 refine ab ?_
 refine qZ [(1,.imm (l.map (aa.int .i64))),(5,.own 0 0 ((mnL n l i).length+1)),(6,nI (mny (n))),(7,nI i)] [.arr 37 ((mnL n l i).map Dc.v++[.agg [.int .i64 1,.str ([116]++(am i)),.str [],.full [],.str ([116]++(am i)),.imm ((mnC true).map Co.v),.imm (([[105,100]]:List (List UInt8)).map aa.str),.imm (([⟨[116,111],aW (aJ l i (((2 * mny n:Nat):Int))).toNat⟩]:List Rf).map Rf.v),.int .i64 2,.str [],.int .i64 1,.str [],.imm (([]:List (List UInt8)).map aa.str),.imm (([]:List (List UInt8)).map aa.str),.imm (([]:List Ex).map Ex.enc),.int .i64 0,.int .i64 0,.full [],.bool false,.int .i64 0,.str [],.int .i64 0,.full [],.full [],.int .i64 0,.str [],.int .i64 0,.str [],.full [],.full [],.full [],.int .i64 0,.int .i64 0,.full [],.int .i64 0,.int .i64 0,.int .i64 0]]) 0,.arr 6 [.agg [.str [105,100],.int .i64 0,.str [],.int .i64 0,.full [],.full []],.agg [.str [116,111],.int .i64 4,.str [],.int .i64 0,.full [],.full []]] 2,.box [.str ([116]++(am i)),.imm ((mnC true).map Co.v),.imm (([[105,100]]:List (List UInt8)).map aa.str),.imm (([⟨[116,111],aW (aJ l i (((2 * mny n:Nat):Int))).toNat⟩]:List Rf).map Rf.v),.int .i64 2,.str [],.int .i64 1,.str [],.imm (([]:List (List UInt8)).map aa.str),.imm (([]:List (List UInt8)).map aa.str),.imm (([]:List Ex).map Ex.enc),.int .i64 0,.int .i64 0]] ?_ ?_
 refine ed 0 (sz:=37) (fr:=0) (es:=((mnL n l i).map Dc.v++[.agg [.int .i64 1,.str ([116]++(am i)),.str [],.full [],.str ([116]++(am i)),.imm ((mnC true).map Co.v),.imm (([[105,100]]:List (List UInt8)).map aa.str),.imm (([⟨[116,111],aW (aJ l i (((2 * mny n:Nat):Int))).toNat⟩]:List Rf).map Rf.v),.int .i64 2,.str [],.int .i64 1,.str [],.imm (([]:List (List UInt8)).map aa.str),.imm (([]:List (List UInt8)).map aa.str),.imm (([]:List Ex).map Ex.enc),.int .i64 0,.int .i64 0,.full [],.bool false,.int .i64 0,.str [],.int .i64 0,.full [],.full [],.int .i64 0,.str [],.int .i64 0,.str [],.full [],.full [],.full [],.int .i64 0,.int .i64 0,.full [],.int .i64 0,.int .i64 0,.int .i64 0]])) (((mnL n l i)++[(Dc.mk 1 ([116]++(am i)) (Sm.mk [] []) (Tb.mk ([116]++(am i)) (mnC true) ([[105,100]]:List (List UInt8)) ([⟨[116,111],aW (aJ l i (((2 * mny n:Nat):Int))).toNat⟩]:List Rf) (Ex.mk 2 [] 1 [] ([]:List (List UInt8)) ([]:List (List UInt8)) ([]:List Ex) 0 0)) 0 0 0)]).map Dc.v) kq lv yc ?_
 refine fY 5 (.own 0 0 ((mnL n l i).length+1)) (.own 0 0 ((mnL n l i)++[(Dc.mk 1 ([116]++(am i)) (Sm.mk [] []) (Tb.mk ([116]++(am i)) (mnC true) ([[105,100]]:List (List UInt8)) ([⟨[116,111],aW (aJ l i (((2 * mny n:Nat):Int))).toNat⟩]:List Rf) (Ex.mk 2 [] 1 [] ([]:List (List UInt8)) ([]:List (List UInt8)) ([]:List Ex) 0 0)) 0 0 0)]).length) kq zq ?_
 refine qZ [(1,.imm (l.map (aa.int .i64))),(5,.own 0 0 ((mnL n l i)++[(Dc.mk 1 ([116]++(am i)) (Sm.mk [] []) (Tb.mk ([116]++(am i)) (mnC true) ([[105,100]]:List (List UInt8)) ([⟨[116,111],aW (aJ l i (((2 * mny n:Nat):Int))).toNat⟩]:List Rf) (Ex.mk 2 [] 1 [] ([]:List (List UInt8)) ([]:List (List UInt8)) ([]:List Ex) 0 0)) 0 0 0)]).length),(6,nI (mny (n))),(7,nI i)] [.arr 37 (((mnL n l i)++[(Dc.mk 1 ([116]++(am i)) (Sm.mk [] []) (Tb.mk ([116]++(am i)) (mnC true) ([[105,100]]:List (List UInt8)) ([⟨[116,111],aW (aJ l i (((2 * mny n:Nat):Int))).toNat⟩]:List Rf) (Ex.mk 2 [] 1 [] ([]:List (List UInt8)) ([]:List (List UInt8)) ([]:List Ex) 0 0)) 0 0 0)]).map Dc.v) 0,.arr 6 [.agg [.str [105,100],.int .i64 0,.str [],.int .i64 0,.full [],.full []],.agg [.str [116,111],.int .i64 4,.str [],.int .i64 0,.full [],.full []]] 2,.box [.str ([116]++(am i)),.imm ((mnC true).map Co.v),.imm (([[105,100]]:List (List UInt8)).map aa.str),.imm (([⟨[116,111],aW (aJ l i (((2 * mny n:Nat):Int))).toNat⟩]:List Rf).map Rf.v),.int .i64 2,.str [],.int .i64 1,.str [],.imm (([]:List (List UInt8)).map aa.str),.imm (([]:List (List UInt8)).map aa.str),.imm (([]:List Ex).map Ex.enc),.int .i64 0,.int .i64 0]] ?_ ?_
 refine qo ?_ ?_
 refine qr 1 ?_ ?_
 refine qy (aI (a:=((i:Nat):Int)) (b:=1) kq oq oq) ?_ ?_ ?_
 refine qr 1 ?_ ?_
 refine qe ?_ ?_
 refine ab ⟨i+1,?_,?_,⟨⟨kq,(Eq.trans (b:=.own 0 0 ((mnL n l i)++[(Dc.mk 1 ([116]++(am i)) (Sm.mk [] []) (Tb.mk ([116]++(am i)) (mnC true) ([[105,100]]:List (List UInt8)) ([⟨[116,111],aW (aJ l i (((2 * mny n:Nat):Int))).toNat⟩]:List Rf) (Ex.mk 2 [] 1 [] ([]:List (List UInt8)) ([]:List (List UInt8)) ([]:List Ex) 0 0)) 0 0 0)]).length) kq AN),kq,kq,trivial⟩,by simp [aG,aa.bel],by simp,(Eq.trans (b:=[.arr 37 (((mnL n l i)++[(Dc.mk 1 ([116]++(am i)) (Sm.mk [] []) (Tb.mk ([116]++(am i)) (mnC true) ([[105,100]]:List (List UInt8)) ([⟨[116,111],aW (aJ l i (((2 * mny n:Nat):Int))).toNat⟩]:List Rf) (Ex.mk 2 [] 1 [] ([]:List (List UInt8)) ([]:List (List UInt8)) ([]:List Ex) 0 0)) 0 0 0)]).map Dc.v) 0]) kq AN),by simp [ai.belO,av,aB,aa.bel,Ty.v,Ex.v,Ct.v,Co.v,Rf.v,Sm.v,Tb.v_cs,Sc.v,Md.v,Pb.v,Ls.v,-List.map_take,-List.map_drop,-List.map_append]⟩⟩
 · omega
 · omega
 iterate 18 kernel_rfl
 refine qf (beq_eq_false_iff_ne.2 hb4) ?_ ?_
 refine qK ?_ ?_
 refine qz [(1,.imm (l.map (aa.int .i64))),(5,.own 0 0 (mnL n l i).length),(6,nI (mny (n))),(7,nI i),(8,.str ([116]++(am i))),(9,.ptr 2 0)] ?_ ?_
 refine sy 2 1 1 (cs:=[.str ([116]++(am i)),.own 1 0 2,.full [.str [105,100]],.full [.agg [.str [116,111],.str ([116]++(am ((aJ l i ((((2 * mny (n)):Nat):Int)))).toNat))]],.int .i64 2,.str [],.int .i64 1,.str [],.full [],.full [],.full [],.int .i64 0,.int .i64 0]) (es:=[.agg [.str [105,100],.int .i64 0,.str [],.int .i64 0,.full [],.full []],.agg [.str [116,111],.int .i64 0,.str [],.int .i64 0,.full [],.full []]]) (off:=0) (len:=2) (sz:=6) (fr:=0) [.str ([116]++(am i)),.imm [.agg [.str [105,100],.int .i64 0,.str [],.int .i64 0,.full [],.full []],.agg [.str [116,111],.int .i64 0,.str [],.int .i64 0,.full [],.full []]],.full [.str [105,100]],.full [.agg [.str [116,111],.str ([116]++(am ((aJ l i ((((2 * mny (n)):Nat):Int)))).toNat))]],.int .i64 2,.str [],.int .i64 1,.str [],.full [],.full [],.full [],.int .i64 0,.int .i64 0] [.agg [.str [105,100],.int .i64 0,.str [],.int .i64 0,.full [],.full []],.agg [.str [116,111],.int .i64 0,.str [],.int .i64 0,.full [],.full []]] dq kq kq kq zq kq kq ?_
 refine cd 2 1 (cs:=[.str ([116]++(am i)),.imm [.agg [.str [105,100],.int .i64 0,.str [],.int .i64 0,.full [],.full []],.agg [.str [116,111],.int .i64 0,.str [],.int .i64 0,.full [],.full []]],.full [.str [105,100]],.full [.agg [.str [116,111],.str ([116]++(am ((aJ l i ((((2 * mny (n)):Nat):Int)))).toNat))]],.int .i64 2,.str [],.int .i64 1,.str [],.full [],.full [],.full [],.int .i64 0,.int .i64 0]) (y:=.imm [.agg [.str [105,100],.int .i64 0,.str [],.int .i64 0,.full [],.full []],.agg [.str [116,111],.int .i64 0,.str [],.int .i64 0,.full [],.full []]]) [.str ([116]++(am i)),.imm ((mnC false).map Co.v),.full [.str [105,100]],.full [.agg [.str [116,111],.str ([116]++(am ((aJ l i ((((2 * mny (n)):Nat):Int)))).toNat))]],.int .i64 2,.str [],.int .i64 1,.str [],.full [],.full [],.full [],.int .i64 0,.int .i64 0] kq kq yf w3 ?_
 refine cd 2 2 (cs:=[.str ([116]++(am i)),.imm ((mnC false).map Co.v),.full [.str [105,100]],.full [.agg [.str [116,111],.str ([116]++(am ((aJ l i ((((2 * mny (n)):Nat):Int)))).toNat))]],.int .i64 2,.str [],.int .i64 1,.str [],.full [],.full [],.full [],.int .i64 0,.int .i64 0]) (y:=.full [.str [105,100]]) [.str ([116]++(am i)),.imm ((mnC false).map Co.v),.imm (([[105,100]]:List (List UInt8)).map aa.str),.full [.agg [.str [116,111],.str ([116]++(am ((aJ l i ((((2 * mny (n)):Nat):Int)))).toNat))]],.int .i64 2,.str [],.int .i64 1,.str [],.full [],.full [],.full [],.int .i64 0,.int .i64 0] kq kq iv ir ?_
 refine cd 2 3 (cs:=[.str ([116]++(am i)),.imm ((mnC false).map Co.v),.imm (([[105,100]]:List (List UInt8)).map aa.str),.full [.agg [.str [116,111],.str ([116]++(am ((aJ l i ((((2 * mny (n)):Nat):Int)))).toNat))]],.int .i64 2,.str [],.int .i64 1,.str [],.full [],.full [],.full [],.int .i64 0,.int .i64 0]) (y:=.full [.agg [.str [116,111],.str ([116]++(am ((aJ l i ((((2 * mny (n)):Nat):Int)))).toNat))]]) [.str ([116]++(am i)),.imm ((mnC false).map Co.v),.imm (([[105,100]]:List (List UInt8)).map aa.str),.imm (([⟨[116,111],aW (aJ l i (((2 * mny n:Nat):Int))).toNat⟩]:List Rf).map Rf.v),.int .i64 2,.str [],.int .i64 1,.str [],.full [],.full [],.full [],.int .i64 0,.int .i64 0] kq kq xV xL ?_
 refine cd 2 8 (cs:=[.str ([116]++(am i)),.imm ((mnC false).map Co.v),.imm (([[105,100]]:List (List UInt8)).map aa.str),.imm (([⟨[116,111],aW (aJ l i (((2 * mny n:Nat):Int))).toNat⟩]:List Rf).map Rf.v),.int .i64 2,.str [],.int .i64 1,.str [],.full [],.full [],.full [],.int .i64 0,.int .i64 0]) (y:=.full []) [.str ([116]++(am i)),.imm ((mnC false).map Co.v),.imm (([[105,100]]:List (List UInt8)).map aa.str),.imm (([⟨[116,111],aW (aJ l i (((2 * mny n:Nat):Int))).toNat⟩]:List Rf).map Rf.v),.int .i64 2,.str [],.int .i64 1,.str [],.imm (([]:List (List UInt8)).map aa.str),.full [],.full [],.int .i64 0,.int .i64 0] kq kq iv ir ?_
 refine cd 2 9 (cs:=[.str ([116]++(am i)),.imm ((mnC false).map Co.v),.imm (([[105,100]]:List (List UInt8)).map aa.str),.imm (([⟨[116,111],aW (aJ l i (((2 * mny n:Nat):Int))).toNat⟩]:List Rf).map Rf.v),.int .i64 2,.str [],.int .i64 1,.str [],.imm (([]:List (List UInt8)).map aa.str),.full [],.full [],.int .i64 0,.int .i64 0]) (y:=.full []) [.str ([116]++(am i)),.imm ((mnC false).map Co.v),.imm (([[105,100]]:List (List UInt8)).map aa.str),.imm (([⟨[116,111],aW (aJ l i (((2 * mny n:Nat):Int))).toNat⟩]:List Rf).map Rf.v),.int .i64 2,.str [],.int .i64 1,.str [],.imm (([]:List (List UInt8)).map aa.str),.imm (([]:List (List UInt8)).map aa.str),.full [],.int .i64 0,.int .i64 0] kq kq iv ir ?_
 refine cd 2 10 (cs:=[.str ([116]++(am i)),.imm ((mnC false).map Co.v),.imm (([[105,100]]:List (List UInt8)).map aa.str),.imm (([⟨[116,111],aW (aJ l i (((2 * mny n:Nat):Int))).toNat⟩]:List Rf).map Rf.v),.int .i64 2,.str [],.int .i64 1,.str [],.imm (([]:List (List UInt8)).map aa.str),.imm (([]:List (List UInt8)).map aa.str),.full [],.int .i64 0,.int .i64 0]) (y:=.full []) [.str ([116]++(am i)),.imm ((mnC false).map Co.v),.imm (([[105,100]]:List (List UInt8)).map aa.str),.imm (([⟨[116,111],aW (aJ l i (((2 * mny n:Nat):Int))).toNat⟩]:List Rf).map Rf.v),.int .i64 2,.str [],.int .i64 1,.str [],.imm (([]:List (List UInt8)).map aa.str),.imm (([]:List (List UInt8)).map aa.str),.imm (([]:List Ex).map Ex.enc),.int .i64 0,.int .i64 0] kq kq iv ir ?_
 refine qZ [(1,.imm (l.map (aa.int .i64))),(5,.own 0 0 (mnL n l i).length),(6,nI (mny (n))),(7,nI i),(8,.str ([116]++(am i))),(9,.ptr 2 0)] [.arr 37 ((mnL n l i).map Dc.v) 0,.arr 6 [.agg [.str [105,100],.int .i64 0,.str [],.int .i64 0,.full [],.full []],.agg [.str [116,111],.int .i64 0,.str [],.int .i64 0,.full [],.full []]] 2,.box [.str ([116]++(am i)),.imm ((mnC false).map Co.v),.imm (([[105,100]]:List (List UInt8)).map aa.str),.imm (([⟨[116,111],aW (aJ l i (((2 * mny n:Nat):Int))).toNat⟩]:List Rf).map Rf.v),.int .i64 2,.str [],.int .i64 1,.str [],.imm (([]:List (List UInt8)).map aa.str),.imm (([]:List (List UInt8)).map aa.str),.imm (([]:List Ex).map Ex.enc),.int .i64 0,.int .i64 0]] ?_ ?_
 refine qo ?_ ?_
 refine qr 5 ?_ ?_
 refine qY (bL (o:=0) (len:=((mnL n l i).length)) (l:=(mnL n l i)) (xs:=[.agg [.int .i64 1,.str ([116]++(am i)),.str [],.full [],.str ([116]++(am i)),.imm ((mnC false).map Co.v),.imm (([[105,100]]:List (List UInt8)).map aa.str),.imm (([⟨[116,111],aW (aJ l i (((2 * mny n:Nat):Int))).toNat⟩]:List Rf).map Rf.v),.int .i64 2,.str [],.int .i64 1,.str [],.imm (([]:List (List UInt8)).map aa.str),.imm (([]:List (List UInt8)).map aa.str),.imm (([]:List Ex).map Ex.enc),.int .i64 0,.int .i64 0,.full [],.bool false,.int .i64 0,.str [],.int .i64 0,.full [],.full [],.int .i64 0,.str [],.int .i64 0,.str [],.full [],.full [],.full [],.int .i64 0,.int .i64 0,.full [],.int .i64 0,.int .i64 0,.int .i64 0]]) (enc:=Dc.v) (sz:=37) (fr:=0) (x:=(.full [.agg [.int .i64 1,.str ([116]++(am i)),.str [],.full [],.str ([116]++(am i)),.imm ((mnC false).map Co.v),.imm (([[105,100]]:List (List UInt8)).map aa.str),.imm (([⟨[116,111],aW (aJ l i (((2 * mny n:Nat):Int))).toNat⟩]:List Rf).map Rf.v),.int .i64 2,.str [],.int .i64 1,.str [],.imm (([]:List (List UInt8)).map aa.str),.imm (([]:List (List UInt8)).map aa.str),.imm (([]:List Ex).map Ex.enc),.int .i64 0,.int .i64 0,.full [],.bool false,.int .i64 0,.str [],.int .i64 0,.full [],.full [],.int .i64 0,.str [],.int .i64 0,.str [],.full [],.full [],.full [],.int .i64 0,.int .i64 0,.full [],.int .i64 0,.int .i64 0,.int .i64 0]])) kq dG iV dG rfl kq rfl rfl kq ⟨by decide,by kernel_rfl⟩ kq oY oY) ?_ ?_ ?_
 refine qr 1 ?_ ?_
 refine qe ?_ ?_
 refine ah ?_
 refine ab ?_
 refine qZ [(1,.imm (l.map (aa.int .i64))),(5,.own 0 0 ((mnL n l i).length+1)),(6,nI (mny (n))),(7,nI i)] [.arr 37 ((mnL n l i).map Dc.v++[.agg [.int .i64 1,.str ([116]++(am i)),.str [],.full [],.str ([116]++(am i)),.imm ((mnC false).map Co.v),.imm (([[105,100]]:List (List UInt8)).map aa.str),.imm (([⟨[116,111],aW (aJ l i (((2 * mny n:Nat):Int))).toNat⟩]:List Rf).map Rf.v),.int .i64 2,.str [],.int .i64 1,.str [],.imm (([]:List (List UInt8)).map aa.str),.imm (([]:List (List UInt8)).map aa.str),.imm (([]:List Ex).map Ex.enc),.int .i64 0,.int .i64 0,.full [],.bool false,.int .i64 0,.str [],.int .i64 0,.full [],.full [],.int .i64 0,.str [],.int .i64 0,.str [],.full [],.full [],.full [],.int .i64 0,.int .i64 0,.full [],.int .i64 0,.int .i64 0,.int .i64 0]]) 0,.arr 6 [.agg [.str [105,100],.int .i64 0,.str [],.int .i64 0,.full [],.full []],.agg [.str [116,111],.int .i64 0,.str [],.int .i64 0,.full [],.full []]] 2,.box [.str ([116]++(am i)),.imm ((mnC false).map Co.v),.imm (([[105,100]]:List (List UInt8)).map aa.str),.imm (([⟨[116,111],aW (aJ l i (((2 * mny n:Nat):Int))).toNat⟩]:List Rf).map Rf.v),.int .i64 2,.str [],.int .i64 1,.str [],.imm (([]:List (List UInt8)).map aa.str),.imm (([]:List (List UInt8)).map aa.str),.imm (([]:List Ex).map Ex.enc),.int .i64 0,.int .i64 0]] ?_ ?_
 refine ed 0 (sz:=37) (fr:=0) (es:=((mnL n l i).map Dc.v++[.agg [.int .i64 1,.str ([116]++(am i)),.str [],.full [],.str ([116]++(am i)),.imm ((mnC false).map Co.v),.imm (([[105,100]]:List (List UInt8)).map aa.str),.imm (([⟨[116,111],aW (aJ l i (((2 * mny n:Nat):Int))).toNat⟩]:List Rf).map Rf.v),.int .i64 2,.str [],.int .i64 1,.str [],.imm (([]:List (List UInt8)).map aa.str),.imm (([]:List (List UInt8)).map aa.str),.imm (([]:List Ex).map Ex.enc),.int .i64 0,.int .i64 0,.full [],.bool false,.int .i64 0,.str [],.int .i64 0,.full [],.full [],.int .i64 0,.str [],.int .i64 0,.str [],.full [],.full [],.full [],.int .i64 0,.int .i64 0,.full [],.int .i64 0,.int .i64 0,.int .i64 0]])) (((mnL n l i)++[(Dc.mk 1 ([116]++(am i)) (Sm.mk [] []) (Tb.mk ([116]++(am i)) (mnC false) ([[105,100]]:List (List UInt8)) ([⟨[116,111],aW (aJ l i (((2 * mny n:Nat):Int))).toNat⟩]:List Rf) (Ex.mk 2 [] 1 [] ([]:List (List UInt8)) ([]:List (List UInt8)) ([]:List Ex) 0 0)) 0 0 0)]).map Dc.v) kq lv yc ?_
 refine fY 5 (.own 0 0 ((mnL n l i).length+1)) (.own 0 0 ((mnL n l i)++[(Dc.mk 1 ([116]++(am i)) (Sm.mk [] []) (Tb.mk ([116]++(am i)) (mnC false) ([[105,100]]:List (List UInt8)) ([⟨[116,111],aW (aJ l i (((2 * mny n:Nat):Int))).toNat⟩]:List Rf) (Ex.mk 2 [] 1 [] ([]:List (List UInt8)) ([]:List (List UInt8)) ([]:List Ex) 0 0)) 0 0 0)]).length) kq zq ?_
 refine qZ [(1,.imm (l.map (aa.int .i64))),(5,.own 0 0 ((mnL n l i)++[(Dc.mk 1 ([116]++(am i)) (Sm.mk [] []) (Tb.mk ([116]++(am i)) (mnC false) ([[105,100]]:List (List UInt8)) ([⟨[116,111],aW (aJ l i (((2 * mny n:Nat):Int))).toNat⟩]:List Rf) (Ex.mk 2 [] 1 [] ([]:List (List UInt8)) ([]:List (List UInt8)) ([]:List Ex) 0 0)) 0 0 0)]).length),(6,nI (mny (n))),(7,nI i)] [.arr 37 (((mnL n l i)++[(Dc.mk 1 ([116]++(am i)) (Sm.mk [] []) (Tb.mk ([116]++(am i)) (mnC false) ([[105,100]]:List (List UInt8)) ([⟨[116,111],aW (aJ l i (((2 * mny n:Nat):Int))).toNat⟩]:List Rf) (Ex.mk 2 [] 1 [] ([]:List (List UInt8)) ([]:List (List UInt8)) ([]:List Ex) 0 0)) 0 0 0)]).map Dc.v) 0,.arr 6 [.agg [.str [105,100],.int .i64 0,.str [],.int .i64 0,.full [],.full []],.agg [.str [116,111],.int .i64 0,.str [],.int .i64 0,.full [],.full []]] 2,.box [.str ([116]++(am i)),.imm ((mnC false).map Co.v),.imm (([[105,100]]:List (List UInt8)).map aa.str),.imm (([⟨[116,111],aW (aJ l i (((2 * mny n:Nat):Int))).toNat⟩]:List Rf).map Rf.v),.int .i64 2,.str [],.int .i64 1,.str [],.imm (([]:List (List UInt8)).map aa.str),.imm (([]:List (List UInt8)).map aa.str),.imm (([]:List Ex).map Ex.enc),.int .i64 0,.int .i64 0]] ?_ ?_
 refine qo ?_ ?_
 refine qr 1 ?_ ?_
 refine qy (aI (a:=((i:Nat):Int)) (b:=1) kq oq oq) ?_ ?_ ?_
 refine qr 1 ?_ ?_
 refine qe ?_ ?_
 refine ab ⟨i+1,?_,?_,⟨⟨kq,(Eq.trans (b:=.own 0 0 ((mnL n l i)++[(Dc.mk 1 ([116]++(am i)) (Sm.mk [] []) (Tb.mk ([116]++(am i)) (mnC false) ([[105,100]]:List (List UInt8)) ([⟨[116,111],aW (aJ l i (((2 * mny n:Nat):Int))).toNat⟩]:List Rf) (Ex.mk 2 [] 1 [] ([]:List (List UInt8)) ([]:List (List UInt8)) ([]:List Ex) 0 0)) 0 0 0)]).length) kq Bv),kq,kq,trivial⟩,by simp [aG,aa.bel],by simp,(Eq.trans (b:=[.arr 37 (((mnL n l i)++[(Dc.mk 1 ([116]++(am i)) (Sm.mk [] []) (Tb.mk ([116]++(am i)) (mnC false) ([[105,100]]:List (List UInt8)) ([⟨[116,111],aW (aJ l i (((2 * mny n:Nat):Int))).toNat⟩]:List Rf) (Ex.mk 2 [] 1 [] ([]:List (List UInt8)) ([]:List (List UInt8)) ([]:List Ex) 0 0)) 0 0 0)]).map Dc.v) 0]) kq Bv),by simp [ai.belO,av,aB,aa.bel,Ty.v,Ex.v,Ct.v,Co.v,Rf.v,Sm.v,Tb.v_cs,Sc.v,Md.v,Pb.v,Ls.v,-List.map_take,-List.map_drop,-List.map_append]⟩⟩
 · omega
 · omega
 iterate 30 kernel_rfl
 refine qf (decide_eq_false hb3) ?_ ?_
 refine qK ?_ ?_
 refine qz [(1,.imm (l.map (aa.int .i64))),(5,.own 0 0 (mnL n l i).length),(6,nI (mny (n))),(7,nI i),(8,.str ([116]++(am i))),(9,.ptr 2 0)] ?_ ?_
 refine az ?_ ?_
 refine qV 2 ?_ ?_
 refine qy (aI (a:=((i:Nat):Int)) (b:=1) kq oq oq) ?_ ?_ ?_
 refine bj (args:=[.imm (l.map (aa.int .i64)),.int .i64 (((i+1):Nat):Int),.int .i64 7]) kq kq kq kq (d8 l (i+1) 7 hl dq) iM iM lv ?_
 refine qR 1 [(1,.imm (l.map (aa.int .i64))),(5,.own 0 0 (mnL n l i).length),(6,nI (mny (n))),(7,nI i),(8,.str ([116]++(am i))),(9,.ptr 2 0),(51,.bool ((aJ l (i+1) 7)==0))] [.arr 37 ((mnL n l i).map Dc.v) 0,.arr 6 [.agg [.str [105,100],.int .i64 0,.str [],.int .i64 0,.full [],.full []],.agg [.str [116,111],.int .i64 0,.str [],.int .i64 0,.full [],.full []]] 0,.box [.str ([116]++(am i)),.own 1 0 2,.full [.str [105,100]],.full [],.int .i64 2,.str [],.int .i64 1,.str [],.full [],.full [],.full [],.int .i64 0,.int .i64 0]] ?_ ?_
 by_cases hb5:(aJ l (i+1) 7)=0
 refine qt (beq_iff_eq.2 hb5) ?_ ?_
 refine qo ?_ ?_
 refine qR 6 [(1,.imm (l.map (aa.int .i64))),(5,.own 0 0 (mnL n l i).length),(6,nI (mny (n))),(7,nI i),(8,.str ([116]++(am i))),(9,.ptr 2 0)] [.arr 37 ((mnL n l i).map Dc.v) 0,.arr 6 [.agg [.str [105,100],.int .i64 0,.str [],.int .i64 0,.full [],.full []],.agg [.str [116,111],.int .i64 4,.str [],.int .i64 0,.full [],.full []]] 0,.box [.str ([116]++(am i)),.own 1 0 2,.full [.str [105,100]],.full [],.int .i64 2,.str [],.int .i64 1,.str [],.full [],.full [],.full [],.int .i64 0,.int .i64 0]] ?_ ?_
 refine sy 2 1 1 (cs:=[.str ([116]++(am i)),.own 1 0 2,.full [.str [105,100]],.full [],.int .i64 2,.str [],.int .i64 1,.str [],.full [],.full [],.full [],.int .i64 0,.int .i64 0]) (es:=[.agg [.str [105,100],.int .i64 0,.str [],.int .i64 0,.full [],.full []],.agg [.str [116,111],.int .i64 4,.str [],.int .i64 0,.full [],.full []]]) (off:=0) (len:=2) (sz:=6) (fr:=0) [.str ([116]++(am i)),.imm [.agg [.str [105,100],.int .i64 0,.str [],.int .i64 0,.full [],.full []],.agg [.str [116,111],.int .i64 4,.str [],.int .i64 0,.full [],.full []]],.full [.str [105,100]],.full [],.int .i64 2,.str [],.int .i64 1,.str [],.full [],.full [],.full [],.int .i64 0,.int .i64 0] [.agg [.str [105,100],.int .i64 0,.str [],.int .i64 0,.full [],.full []],.agg [.str [116,111],.int .i64 4,.str [],.int .i64 0,.full [],.full []]] dq kq kq kq zq kq kq ?_
 refine cd 2 1 (cs:=[.str ([116]++(am i)),.imm [.agg [.str [105,100],.int .i64 0,.str [],.int .i64 0,.full [],.full []],.agg [.str [116,111],.int .i64 4,.str [],.int .i64 0,.full [],.full []]],.full [.str [105,100]],.full [],.int .i64 2,.str [],.int .i64 1,.str [],.full [],.full [],.full [],.int .i64 0,.int .i64 0]) (y:=.imm [.agg [.str [105,100],.int .i64 0,.str [],.int .i64 0,.full [],.full []],.agg [.str [116,111],.int .i64 4,.str [],.int .i64 0,.full [],.full []]]) [.str ([116]++(am i)),.imm ((mnC true).map Co.v),.full [.str [105,100]],.full [],.int .i64 2,.str [],.int .i64 1,.str [],.full [],.full [],.full [],.int .i64 0,.int .i64 0] kq kq yf w3 ?_
 refine cd 2 2 (cs:=[.str ([116]++(am i)),.imm ((mnC true).map Co.v),.full [.str [105,100]],.full [],.int .i64 2,.str [],.int .i64 1,.str [],.full [],.full [],.full [],.int .i64 0,.int .i64 0]) (y:=.full [.str [105,100]]) [.str ([116]++(am i)),.imm ((mnC true).map Co.v),.imm (([[105,100]]:List (List UInt8)).map aa.str),.full [],.int .i64 2,.str [],.int .i64 1,.str [],.full [],.full [],.full [],.int .i64 0,.int .i64 0] kq kq iv ir ?_
 refine cd 2 3 (cs:=[.str ([116]++(am i)),.imm ((mnC true).map Co.v),.imm (([[105,100]]:List (List UInt8)).map aa.str),.full [],.int .i64 2,.str [],.int .i64 1,.str [],.full [],.full [],.full [],.int .i64 0,.int .i64 0]) (y:=.full []) [.str ([116]++(am i)),.imm ((mnC true).map Co.v),.imm (([[105,100]]:List (List UInt8)).map aa.str),.imm (([]:List Rf).map Rf.v),.int .i64 2,.str [],.int .i64 1,.str [],.full [],.full [],.full [],.int .i64 0,.int .i64 0] kq kq xV xL ?_
 refine cd 2 8 (cs:=[.str ([116]++(am i)),.imm ((mnC true).map Co.v),.imm (([[105,100]]:List (List UInt8)).map aa.str),.imm (([]:List Rf).map Rf.v),.int .i64 2,.str [],.int .i64 1,.str [],.full [],.full [],.full [],.int .i64 0,.int .i64 0]) (y:=.full []) [.str ([116]++(am i)),.imm ((mnC true).map Co.v),.imm (([[105,100]]:List (List UInt8)).map aa.str),.imm (([]:List Rf).map Rf.v),.int .i64 2,.str [],.int .i64 1,.str [],.imm (([]:List (List UInt8)).map aa.str),.full [],.full [],.int .i64 0,.int .i64 0] kq kq iv ir ?_
 refine cd 2 9 (cs:=[.str ([116]++(am i)),.imm ((mnC true).map Co.v),.imm (([[105,100]]:List (List UInt8)).map aa.str),.imm (([]:List Rf).map Rf.v),.int .i64 2,.str [],.int .i64 1,.str [],.imm (([]:List (List UInt8)).map aa.str),.full [],.full [],.int .i64 0,.int .i64 0]) (y:=.full []) [.str ([116]++(am i)),.imm ((mnC true).map Co.v),.imm (([[105,100]]:List (List UInt8)).map aa.str),.imm (([]:List Rf).map Rf.v),.int .i64 2,.str [],.int .i64 1,.str [],.imm (([]:List (List UInt8)).map aa.str),.imm (([]:List (List UInt8)).map aa.str),.full [],.int .i64 0,.int .i64 0] kq kq iv ir ?_
 refine cd 2 10 (cs:=[.str ([116]++(am i)),.imm ((mnC true).map Co.v),.imm (([[105,100]]:List (List UInt8)).map aa.str),.imm (([]:List Rf).map Rf.v),.int .i64 2,.str [],.int .i64 1,.str [],.imm (([]:List (List UInt8)).map aa.str),.imm (([]:List (List UInt8)).map aa.str),.full [],.int .i64 0,.int .i64 0]) (y:=.full []) [.str ([116]++(am i)),.imm ((mnC true).map Co.v),.imm (([[105,100]]:List (List UInt8)).map aa.str),.imm (([]:List Rf).map Rf.v),.int .i64 2,.str [],.int .i64 1,.str [],.imm (([]:List (List UInt8)).map aa.str),.imm (([]:List (List UInt8)).map aa.str),.imm (([]:List Ex).map Ex.enc),.int .i64 0,.int .i64 0] kq kq iv ir ?_
 refine qZ [(1,.imm (l.map (aa.int .i64))),(5,.own 0 0 (mnL n l i).length),(6,nI (mny (n))),(7,nI i),(8,.str ([116]++(am i))),(9,.ptr 2 0)] [.arr 37 ((mnL n l i).map Dc.v) 0,.arr 6 [.agg [.str [105,100],.int .i64 0,.str [],.int .i64 0,.full [],.full []],.agg [.str [116,111],.int .i64 4,.str [],.int .i64 0,.full [],.full []]] 2,.box [.str ([116]++(am i)),.imm ((mnC true).map Co.v),.imm (([[105,100]]:List (List UInt8)).map aa.str),.imm (([]:List Rf).map Rf.v),.int .i64 2,.str [],.int .i64 1,.str [],.imm (([]:List (List UInt8)).map aa.str),.imm (([]:List (List UInt8)).map aa.str),.imm (([]:List Ex).map Ex.enc),.int .i64 0,.int .i64 0]] ?_ ?_
 refine qo ?_ ?_
 refine qr 5 ?_ ?_
 refine qY (bL (o:=0) (len:=((mnL n l i).length)) (l:=(mnL n l i)) (xs:=[.agg [.int .i64 1,.str ([116]++(am i)),.str [],.full [],.str ([116]++(am i)),.imm ((mnC true).map Co.v),.imm (([[105,100]]:List (List UInt8)).map aa.str),.imm (([]:List Rf).map Rf.v),.int .i64 2,.str [],.int .i64 1,.str [],.imm (([]:List (List UInt8)).map aa.str),.imm (([]:List (List UInt8)).map aa.str),.imm (([]:List Ex).map Ex.enc),.int .i64 0,.int .i64 0,.full [],.bool false,.int .i64 0,.str [],.int .i64 0,.full [],.full [],.int .i64 0,.str [],.int .i64 0,.str [],.full [],.full [],.full [],.int .i64 0,.int .i64 0,.full [],.int .i64 0,.int .i64 0,.int .i64 0]]) (enc:=Dc.v) (sz:=37) (fr:=0) (x:=(.full [.agg [.int .i64 1,.str ([116]++(am i)),.str [],.full [],.str ([116]++(am i)),.imm ((mnC true).map Co.v),.imm (([[105,100]]:List (List UInt8)).map aa.str),.imm (([]:List Rf).map Rf.v),.int .i64 2,.str [],.int .i64 1,.str [],.imm (([]:List (List UInt8)).map aa.str),.imm (([]:List (List UInt8)).map aa.str),.imm (([]:List Ex).map Ex.enc),.int .i64 0,.int .i64 0,.full [],.bool false,.int .i64 0,.str [],.int .i64 0,.full [],.full [],.int .i64 0,.str [],.int .i64 0,.str [],.full [],.full [],.full [],.int .i64 0,.int .i64 0,.full [],.int .i64 0,.int .i64 0,.int .i64 0]])) kq dG iV dG rfl kq rfl rfl kq ⟨by decide,by kernel_rfl⟩ kq oY oY) ?_ ?_ ?_
 refine qr 1 ?_ ?_
 refine qe ?_ ?_
 refine ah ?_
 refine ab ?_
 refine qZ [(1,.imm (l.map (aa.int .i64))),(5,.own 0 0 ((mnL n l i).length+1)),(6,nI (mny (n))),(7,nI i)] [.arr 37 ((mnL n l i).map Dc.v++[.agg [.int .i64 1,.str ([116]++(am i)),.str [],.full [],.str ([116]++(am i)),.imm ((mnC true).map Co.v),.imm (([[105,100]]:List (List UInt8)).map aa.str),.imm (([]:List Rf).map Rf.v),.int .i64 2,.str [],.int .i64 1,.str [],.imm (([]:List (List UInt8)).map aa.str),.imm (([]:List (List UInt8)).map aa.str),.imm (([]:List Ex).map Ex.enc),.int .i64 0,.int .i64 0,.full [],.bool false,.int .i64 0,.str [],.int .i64 0,.full [],.full [],.int .i64 0,.str [],.int .i64 0,.str [],.full [],.full [],.full [],.int .i64 0,.int .i64 0,.full [],.int .i64 0,.int .i64 0,.int .i64 0]]) 0,.arr 6 [.agg [.str [105,100],.int .i64 0,.str [],.int .i64 0,.full [],.full []],.agg [.str [116,111],.int .i64 4,.str [],.int .i64 0,.full [],.full []]] 2,.box [.str ([116]++(am i)),.imm ((mnC true).map Co.v),.imm (([[105,100]]:List (List UInt8)).map aa.str),.imm (([]:List Rf).map Rf.v),.int .i64 2,.str [],.int .i64 1,.str [],.imm (([]:List (List UInt8)).map aa.str),.imm (([]:List (List UInt8)).map aa.str),.imm (([]:List Ex).map Ex.enc),.int .i64 0,.int .i64 0]] ?_ ?_
 refine ed 0 (sz:=37) (fr:=0) (es:=((mnL n l i).map Dc.v++[.agg [.int .i64 1,.str ([116]++(am i)),.str [],.full [],.str ([116]++(am i)),.imm ((mnC true).map Co.v),.imm (([[105,100]]:List (List UInt8)).map aa.str),.imm (([]:List Rf).map Rf.v),.int .i64 2,.str [],.int .i64 1,.str [],.imm (([]:List (List UInt8)).map aa.str),.imm (([]:List (List UInt8)).map aa.str),.imm (([]:List Ex).map Ex.enc),.int .i64 0,.int .i64 0,.full [],.bool false,.int .i64 0,.str [],.int .i64 0,.full [],.full [],.int .i64 0,.str [],.int .i64 0,.str [],.full [],.full [],.full [],.int .i64 0,.int .i64 0,.full [],.int .i64 0,.int .i64 0,.int .i64 0]])) (((mnL n l i)++[(Dc.mk 1 ([116]++(am i)) (Sm.mk [] []) (Tb.mk ([116]++(am i)) (mnC true) ([[105,100]]:List (List UInt8)) ([]:List Rf) (Ex.mk 2 [] 1 [] ([]:List (List UInt8)) ([]:List (List UInt8)) ([]:List Ex) 0 0)) 0 0 0)]).map Dc.v) kq lv yc ?_
 refine fY 5 (.own 0 0 ((mnL n l i).length+1)) (.own 0 0 ((mnL n l i)++[(Dc.mk 1 ([116]++(am i)) (Sm.mk [] []) (Tb.mk ([116]++(am i)) (mnC true) ([[105,100]]:List (List UInt8)) ([]:List Rf) (Ex.mk 2 [] 1 [] ([]:List (List UInt8)) ([]:List (List UInt8)) ([]:List Ex) 0 0)) 0 0 0)]).length) kq zq ?_
 refine qZ [(1,.imm (l.map (aa.int .i64))),(5,.own 0 0 ((mnL n l i)++[(Dc.mk 1 ([116]++(am i)) (Sm.mk [] []) (Tb.mk ([116]++(am i)) (mnC true) ([[105,100]]:List (List UInt8)) ([]:List Rf) (Ex.mk 2 [] 1 [] ([]:List (List UInt8)) ([]:List (List UInt8)) ([]:List Ex) 0 0)) 0 0 0)]).length),(6,nI (mny (n))),(7,nI i)] [.arr 37 (((mnL n l i)++[(Dc.mk 1 ([116]++(am i)) (Sm.mk [] []) (Tb.mk ([116]++(am i)) (mnC true) ([[105,100]]:List (List UInt8)) ([]:List Rf) (Ex.mk 2 [] 1 [] ([]:List (List UInt8)) ([]:List (List UInt8)) ([]:List Ex) 0 0)) 0 0 0)]).map Dc.v) 0,.arr 6 [.agg [.str [105,100],.int .i64 0,.str [],.int .i64 0,.full [],.full []],.agg [.str [116,111],.int .i64 4,.str [],.int .i64 0,.full [],.full []]] 2,.box [.str ([116]++(am i)),.imm ((mnC true).map Co.v),.imm (([[105,100]]:List (List UInt8)).map aa.str),.imm (([]:List Rf).map Rf.v),.int .i64 2,.str [],.int .i64 1,.str [],.imm (([]:List (List UInt8)).map aa.str),.imm (([]:List (List UInt8)).map aa.str),.imm (([]:List Ex).map Ex.enc),.int .i64 0,.int .i64 0]] ?_ ?_
 refine qo ?_ ?_
 refine qr 1 ?_ ?_
 refine qy (aI (a:=((i:Nat):Int)) (b:=1) kq oq oq) ?_ ?_ ?_
 refine qr 1 ?_ ?_
 refine qe ?_ ?_
 refine ab ⟨i+1,?_,?_,⟨⟨kq,(Eq.trans (b:=.own 0 0 ((mnL n l i)++[(Dc.mk 1 ([116]++(am i)) (Sm.mk [] []) (Tb.mk ([116]++(am i)) (mnC true) ([[105,100]]:List (List UInt8)) ([]:List Rf) (Ex.mk 2 [] 1 [] ([]:List (List UInt8)) ([]:List (List UInt8)) ([]:List Ex) 0 0)) 0 0 0)]).length) kq AL),kq,kq,trivial⟩,by simp [aG,aa.bel],by simp,(Eq.trans (b:=[.arr 37 (((mnL n l i)++[(Dc.mk 1 ([116]++(am i)) (Sm.mk [] []) (Tb.mk ([116]++(am i)) (mnC true) ([[105,100]]:List (List UInt8)) ([]:List Rf) (Ex.mk 2 [] 1 [] ([]:List (List UInt8)) ([]:List (List UInt8)) ([]:List Ex) 0 0)) 0 0 0)]).map Dc.v) 0]) kq AL),by simp [ai.belO,av,aB,aa.bel,Ty.v,Ex.v,Ct.v,Co.v,Rf.v,Sm.v,Tb.v_cs,Sc.v,Md.v,Pb.v,Ls.v,-List.map_take,-List.map_drop,-List.map_append]⟩⟩
 · omega
 · omega
 iterate 18 kernel_rfl
 refine qf (beq_eq_false_iff_ne.2 hb5) ?_ ?_
 refine qK ?_ ?_
 refine qz [(1,.imm (l.map (aa.int .i64))),(5,.own 0 0 (mnL n l i).length),(6,nI (mny (n))),(7,nI i),(8,.str ([116]++(am i))),(9,.ptr 2 0)] ?_ ?_
 refine sy 2 1 1 (cs:=[.str ([116]++(am i)),.own 1 0 2,.full [.str [105,100]],.full [],.int .i64 2,.str [],.int .i64 1,.str [],.full [],.full [],.full [],.int .i64 0,.int .i64 0]) (es:=[.agg [.str [105,100],.int .i64 0,.str [],.int .i64 0,.full [],.full []],.agg [.str [116,111],.int .i64 0,.str [],.int .i64 0,.full [],.full []]]) (off:=0) (len:=2) (sz:=6) (fr:=0) [.str ([116]++(am i)),.imm [.agg [.str [105,100],.int .i64 0,.str [],.int .i64 0,.full [],.full []],.agg [.str [116,111],.int .i64 0,.str [],.int .i64 0,.full [],.full []]],.full [.str [105,100]],.full [],.int .i64 2,.str [],.int .i64 1,.str [],.full [],.full [],.full [],.int .i64 0,.int .i64 0] [.agg [.str [105,100],.int .i64 0,.str [],.int .i64 0,.full [],.full []],.agg [.str [116,111],.int .i64 0,.str [],.int .i64 0,.full [],.full []]] dq kq kq kq zq kq kq ?_
 refine cd 2 1 (cs:=[.str ([116]++(am i)),.imm [.agg [.str [105,100],.int .i64 0,.str [],.int .i64 0,.full [],.full []],.agg [.str [116,111],.int .i64 0,.str [],.int .i64 0,.full [],.full []]],.full [.str [105,100]],.full [],.int .i64 2,.str [],.int .i64 1,.str [],.full [],.full [],.full [],.int .i64 0,.int .i64 0]) (y:=.imm [.agg [.str [105,100],.int .i64 0,.str [],.int .i64 0,.full [],.full []],.agg [.str [116,111],.int .i64 0,.str [],.int .i64 0,.full [],.full []]]) [.str ([116]++(am i)),.imm ((mnC false).map Co.v),.full [.str [105,100]],.full [],.int .i64 2,.str [],.int .i64 1,.str [],.full [],.full [],.full [],.int .i64 0,.int .i64 0] kq kq yf w3 ?_
 refine cd 2 2 (cs:=[.str ([116]++(am i)),.imm ((mnC false).map Co.v),.full [.str [105,100]],.full [],.int .i64 2,.str [],.int .i64 1,.str [],.full [],.full [],.full [],.int .i64 0,.int .i64 0]) (y:=.full [.str [105,100]]) [.str ([116]++(am i)),.imm ((mnC false).map Co.v),.imm (([[105,100]]:List (List UInt8)).map aa.str),.full [],.int .i64 2,.str [],.int .i64 1,.str [],.full [],.full [],.full [],.int .i64 0,.int .i64 0] kq kq iv ir ?_
 refine cd 2 3 (cs:=[.str ([116]++(am i)),.imm ((mnC false).map Co.v),.imm (([[105,100]]:List (List UInt8)).map aa.str),.full [],.int .i64 2,.str [],.int .i64 1,.str [],.full [],.full [],.full [],.int .i64 0,.int .i64 0]) (y:=.full []) [.str ([116]++(am i)),.imm ((mnC false).map Co.v),.imm (([[105,100]]:List (List UInt8)).map aa.str),.imm (([]:List Rf).map Rf.v),.int .i64 2,.str [],.int .i64 1,.str [],.full [],.full [],.full [],.int .i64 0,.int .i64 0] kq kq xV xL ?_
 refine cd 2 8 (cs:=[.str ([116]++(am i)),.imm ((mnC false).map Co.v),.imm (([[105,100]]:List (List UInt8)).map aa.str),.imm (([]:List Rf).map Rf.v),.int .i64 2,.str [],.int .i64 1,.str [],.full [],.full [],.full [],.int .i64 0,.int .i64 0]) (y:=.full []) [.str ([116]++(am i)),.imm ((mnC false).map Co.v),.imm (([[105,100]]:List (List UInt8)).map aa.str),.imm (([]:List Rf).map Rf.v),.int .i64 2,.str [],.int .i64 1,.str [],.imm (([]:List (List UInt8)).map aa.str),.full [],.full [],.int .i64 0,.int .i64 0] kq kq iv ir ?_
 refine cd 2 9 (cs:=[.str ([116]++(am i)),.imm ((mnC false).map Co.v),.imm (([[105,100]]:List (List UInt8)).map aa.str),.imm (([]:List Rf).map Rf.v),.int .i64 2,.str [],.int .i64 1,.str [],.imm (([]:List (List UInt8)).map aa.str),.full [],.full [],.int .i64 0,.int .i64 0]) (y:=.full []) [.str ([116]++(am i)),.imm ((mnC false).map Co.v),.imm (([[105,100]]:List (List UInt8)).map aa.str),.imm (([]:List Rf).map Rf.v),.int .i64 2,.str [],.int .i64 1,.str [],.imm (([]:List (List UInt8)).map aa.str),.imm (([]:List (List UInt8)).map aa.str),.full [],.int .i64 0,.int .i64 0] kq kq iv ir ?_
 refine cd 2 10 (cs:=[.str ([116]++(am i)),.imm ((mnC false).map Co.v),.imm (([[105,100]]:List (List UInt8)).map aa.str),.imm (([]:List Rf).map Rf.v),.int .i64 2,.str [],.int .i64 1,.str [],.imm (([]:List (List UInt8)).map aa.str),.imm (([]:List (List UInt8)).map aa.str),.full [],.int .i64 0,.int .i64 0]) (y:=.full []) [.str ([116]++(am i)),.imm ((mnC false).map Co.v),.imm (([[105,100]]:List (List UInt8)).map aa.str),.imm (([]:List Rf).map Rf.v),.int .i64 2,.str [],.int .i64 1,.str [],.imm (([]:List (List UInt8)).map aa.str),.imm (([]:List (List UInt8)).map aa.str),.imm (([]:List Ex).map Ex.enc),.int .i64 0,.int .i64 0] kq kq iv ir ?_
 refine qZ [(1,.imm (l.map (aa.int .i64))),(5,.own 0 0 (mnL n l i).length),(6,nI (mny (n))),(7,nI i),(8,.str ([116]++(am i))),(9,.ptr 2 0)] [.arr 37 ((mnL n l i).map Dc.v) 0,.arr 6 [.agg [.str [105,100],.int .i64 0,.str [],.int .i64 0,.full [],.full []],.agg [.str [116,111],.int .i64 0,.str [],.int .i64 0,.full [],.full []]] 2,.box [.str ([116]++(am i)),.imm ((mnC false).map Co.v),.imm (([[105,100]]:List (List UInt8)).map aa.str),.imm (([]:List Rf).map Rf.v),.int .i64 2,.str [],.int .i64 1,.str [],.imm (([]:List (List UInt8)).map aa.str),.imm (([]:List (List UInt8)).map aa.str),.imm (([]:List Ex).map Ex.enc),.int .i64 0,.int .i64 0]] ?_ ?_
 refine qo ?_ ?_
 refine qr 5 ?_ ?_
 refine qY (bL (o:=0) (len:=((mnL n l i).length)) (l:=(mnL n l i)) (xs:=[.agg [.int .i64 1,.str ([116]++(am i)),.str [],.full [],.str ([116]++(am i)),.imm ((mnC false).map Co.v),.imm (([[105,100]]:List (List UInt8)).map aa.str),.imm (([]:List Rf).map Rf.v),.int .i64 2,.str [],.int .i64 1,.str [],.imm (([]:List (List UInt8)).map aa.str),.imm (([]:List (List UInt8)).map aa.str),.imm (([]:List Ex).map Ex.enc),.int .i64 0,.int .i64 0,.full [],.bool false,.int .i64 0,.str [],.int .i64 0,.full [],.full [],.int .i64 0,.str [],.int .i64 0,.str [],.full [],.full [],.full [],.int .i64 0,.int .i64 0,.full [],.int .i64 0,.int .i64 0,.int .i64 0]]) (enc:=Dc.v) (sz:=37) (fr:=0) (x:=(.full [.agg [.int .i64 1,.str ([116]++(am i)),.str [],.full [],.str ([116]++(am i)),.imm ((mnC false).map Co.v),.imm (([[105,100]]:List (List UInt8)).map aa.str),.imm (([]:List Rf).map Rf.v),.int .i64 2,.str [],.int .i64 1,.str [],.imm (([]:List (List UInt8)).map aa.str),.imm (([]:List (List UInt8)).map aa.str),.imm (([]:List Ex).map Ex.enc),.int .i64 0,.int .i64 0,.full [],.bool false,.int .i64 0,.str [],.int .i64 0,.full [],.full [],.int .i64 0,.str [],.int .i64 0,.str [],.full [],.full [],.full [],.int .i64 0,.int .i64 0,.full [],.int .i64 0,.int .i64 0,.int .i64 0]])) kq dG iV dG rfl kq rfl rfl kq ⟨by decide,by kernel_rfl⟩ kq oY oY) ?_ ?_ ?_
 refine qr 1 ?_ ?_
 refine qe ?_ ?_
 refine ah ?_
 refine ab ?_
 refine qZ [(1,.imm (l.map (aa.int .i64))),(5,.own 0 0 ((mnL n l i).length+1)),(6,nI (mny (n))),(7,nI i)] [.arr 37 ((mnL n l i).map Dc.v++[.agg [.int .i64 1,.str ([116]++(am i)),.str [],.full [],.str ([116]++(am i)),.imm ((mnC false).map Co.v),.imm (([[105,100]]:List (List UInt8)).map aa.str),.imm (([]:List Rf).map Rf.v),.int .i64 2,.str [],.int .i64 1,.str [],.imm (([]:List (List UInt8)).map aa.str),.imm (([]:List (List UInt8)).map aa.str),.imm (([]:List Ex).map Ex.enc),.int .i64 0,.int .i64 0,.full [],.bool false,.int .i64 0,.str [],.int .i64 0,.full [],.full [],.int .i64 0,.str [],.int .i64 0,.str [],.full [],.full [],.full [],.int .i64 0,.int .i64 0,.full [],.int .i64 0,.int .i64 0,.int .i64 0]]) 0,.arr 6 [.agg [.str [105,100],.int .i64 0,.str [],.int .i64 0,.full [],.full []],.agg [.str [116,111],.int .i64 0,.str [],.int .i64 0,.full [],.full []]] 2,.box [.str ([116]++(am i)),.imm ((mnC false).map Co.v),.imm (([[105,100]]:List (List UInt8)).map aa.str),.imm (([]:List Rf).map Rf.v),.int .i64 2,.str [],.int .i64 1,.str [],.imm (([]:List (List UInt8)).map aa.str),.imm (([]:List (List UInt8)).map aa.str),.imm (([]:List Ex).map Ex.enc),.int .i64 0,.int .i64 0]] ?_ ?_
 refine ed 0 (sz:=37) (fr:=0) (es:=((mnL n l i).map Dc.v++[.agg [.int .i64 1,.str ([116]++(am i)),.str [],.full [],.str ([116]++(am i)),.imm ((mnC false).map Co.v),.imm (([[105,100]]:List (List UInt8)).map aa.str),.imm (([]:List Rf).map Rf.v),.int .i64 2,.str [],.int .i64 1,.str [],.imm (([]:List (List UInt8)).map aa.str),.imm (([]:List (List UInt8)).map aa.str),.imm (([]:List Ex).map Ex.enc),.int .i64 0,.int .i64 0,.full [],.bool false,.int .i64 0,.str [],.int .i64 0,.full [],.full [],.int .i64 0,.str [],.int .i64 0,.str [],.full [],.full [],.full [],.int .i64 0,.int .i64 0,.full [],.int .i64 0,.int .i64 0,.int .i64 0]])) (((mnL n l i)++[(Dc.mk 1 ([116]++(am i)) (Sm.mk [] []) (Tb.mk ([116]++(am i)) (mnC false) ([[105,100]]:List (List UInt8)) ([]:List Rf) (Ex.mk 2 [] 1 [] ([]:List (List UInt8)) ([]:List (List UInt8)) ([]:List Ex) 0 0)) 0 0 0)]).map Dc.v) kq lv yc ?_
 refine fY 5 (.own 0 0 ((mnL n l i).length+1)) (.own 0 0 ((mnL n l i)++[(Dc.mk 1 ([116]++(am i)) (Sm.mk [] []) (Tb.mk ([116]++(am i)) (mnC false) ([[105,100]]:List (List UInt8)) ([]:List Rf) (Ex.mk 2 [] 1 [] ([]:List (List UInt8)) ([]:List (List UInt8)) ([]:List Ex) 0 0)) 0 0 0)]).length) kq zq ?_
 refine qZ [(1,.imm (l.map (aa.int .i64))),(5,.own 0 0 ((mnL n l i)++[(Dc.mk 1 ([116]++(am i)) (Sm.mk [] []) (Tb.mk ([116]++(am i)) (mnC false) ([[105,100]]:List (List UInt8)) ([]:List Rf) (Ex.mk 2 [] 1 [] ([]:List (List UInt8)) ([]:List (List UInt8)) ([]:List Ex) 0 0)) 0 0 0)]).length),(6,nI (mny (n))),(7,nI i)] [.arr 37 (((mnL n l i)++[(Dc.mk 1 ([116]++(am i)) (Sm.mk [] []) (Tb.mk ([116]++(am i)) (mnC false) ([[105,100]]:List (List UInt8)) ([]:List Rf) (Ex.mk 2 [] 1 [] ([]:List (List UInt8)) ([]:List (List UInt8)) ([]:List Ex) 0 0)) 0 0 0)]).map Dc.v) 0,.arr 6 [.agg [.str [105,100],.int .i64 0,.str [],.int .i64 0,.full [],.full []],.agg [.str [116,111],.int .i64 0,.str [],.int .i64 0,.full [],.full []]] 2,.box [.str ([116]++(am i)),.imm ((mnC false).map Co.v),.imm (([[105,100]]:List (List UInt8)).map aa.str),.imm (([]:List Rf).map Rf.v),.int .i64 2,.str [],.int .i64 1,.str [],.imm (([]:List (List UInt8)).map aa.str),.imm (([]:List (List UInt8)).map aa.str),.imm (([]:List Ex).map Ex.enc),.int .i64 0,.int .i64 0]] ?_ ?_
 refine qo ?_ ?_
 refine qr 1 ?_ ?_
 refine qy (aI (a:=((i:Nat):Int)) (b:=1) kq oq oq) ?_ ?_ ?_
 refine qr 1 ?_ ?_
 refine qe ?_ ?_
 refine ab ⟨i+1,?_,?_,⟨⟨kq,(Eq.trans (b:=.own 0 0 ((mnL n l i)++[(Dc.mk 1 ([116]++(am i)) (Sm.mk [] []) (Tb.mk ([116]++(am i)) (mnC false) ([[105,100]]:List (List UInt8)) ([]:List Rf) (Ex.mk 2 [] 1 [] ([]:List (List UInt8)) ([]:List (List UInt8)) ([]:List Ex) 0 0)) 0 0 0)]).length) kq Bc),kq,kq,trivial⟩,by simp [aG,aa.bel],by simp,(Eq.trans (b:=[.arr 37 (((mnL n l i)++[(Dc.mk 1 ([116]++(am i)) (Sm.mk [] []) (Tb.mk ([116]++(am i)) (mnC false) ([[105,100]]:List (List UInt8)) ([]:List Rf) (Ex.mk 2 [] 1 [] ([]:List (List UInt8)) ([]:List (List UInt8)) ([]:List Ex) 0 0)) 0 0 0)]).map Dc.v) 0]) kq Bc),by simp [ai.belO,av,aB,aa.bel,Ty.v,Ex.v,Ct.v,Co.v,Rf.v,Sm.v,Tb.v_cs,Sc.v,Md.v,Pb.v,Ls.v,-List.map_take,-List.map_drop,-List.map_append]⟩⟩
 · omega
 · omega
 iterate 45 kernel_rfl
 refine qf (decide_eq_false hb1) ?_ ?_
 refine a6 0 kq kq ?_
 refine af ?_
 refine af ?_
 refine aE ?_
 refine ab ?_
 refine qz [(1,.imm (l.map (aa.int .i64))),(5,.own 0 0 (mnL n l i).length)] ?_ ?_
 refine fY 5 (.own 0 0 (mnL n l i).length) (.own 0 0 (mnL n l (mny n)).length) kq (by rw [show i=mny n by omega]) ?_
 refine ed 0 (sz:=37) (fr:=0) (es:=((mnL n l i).map Dc.v)) ((mnL n l (mny n)).map Dc.v) kq zq (by rw [show i=mny n by omega];simp) ?_
 refine qZ [(1,.imm (l.map (aa.int .i64))),(5,.own 0 0 (mnL n l (mny n)).length)] [.arr 37 ((mnL n l (mny n)).map Dc.v) 0] ?_ ?_
 refine qV 2 ?_ ?_
 refine vZ (args:=[.own 0 0 (mnL n l (mny n)).length,.imm (l.map (aa.int .i64))]) (F:=[.arr 37 ((mnL n l (mny n)).map Dc.v) ((mnL n l (mny n)).map Dc.v).length]) kq kq kq kq (uP (mnL n l (mny n)) l (by rw [fU];omega) hl) [.arr 37 ((mnL n l (mny n)).map Dc.v) 0] kq (by simp [aZ,cW,aO,aa.frz,aa.owns]) iM (by simp [aZ,cW,aO,aa.frz,aa.owns]) ?_
 refine qR 1 [(11,.imm ((msM n l).map Md.v))] [.arr 37 ((mnL n l (mny n)).map Dc.v) ((mnL n l (mny n)).map Dc.v).length] ?_ ?_
 refine qV 1 ?_ ?_
 refine bj (args:=[.imm ((msM n l).map Md.v)]) kq kq kq kq (uq n l) iM iM lv ?_
 refine qR 6 [(11,.imm ((msM n l).map Md.v)),(12,.ptr 1 0),(13,.imm ((stI cH dc dp (msM n l) (msM n l).length).bp.2.map Pb.v))] [.arr 37 ((mnL n l (mny n)).map Dc.v) ((mnL n l (mny n)).map Dc.v).length,.box [.imm ((ce cH dc dp (msM n l) []).sums.map Sm.v),.imm ((ce cH dc dp (msM n l) []).tabs.map Tb.v)]] ?_ ?_
 refine qV 1 ?_ ?_
 refine bj (args:=[.imm ((msM n l).map Md.v)]) kq kq kq kq (rc n l) iM iM lv ?_
 refine qR 6 [(12,.ptr 1 0),(13,.imm ((stI cH dc dp (msM n l) (msM n l).length).bp.2.map Pb.v)),(14,.ptr 2 0),(15,.imm ((stI cH dc dp (msM n l) (msM n l).length).bp.2.map Pb.v))] [.arr 37 ((mnL n l (mny n)).map Dc.v) ((mnL n l (mny n)).map Dc.v).length,.box [.imm ((ce cH dc dp (msM n l) []).sums.map Sm.v),.imm ((ce cH dc dp (msM n l) []).tabs.map Tb.v)],.box [.imm ((ce cH dc dp (msM n l) []).sums.map Sm.v),.imm ((ce cH dc dp (msM n l) []).tabs.map Tb.v)]] ?_ ?_
 refine qV 2 ?_ ?_
 refine bj (args:=[.agg [.imm ((ce cH dc dp (msM n l) []).sums.map Sm.v),.imm ((ce cH dc dp (msM n l) []).tabs.map Tb.v)],.agg [.imm ((ce cH dc dp (msM n l) []).sums.map Sm.v),.imm ((ce cH dc dp (msM n l) []).tabs.map Tb.v)]]) kq kq kq kq (xC n l) iM iM lv ?_
 refine qr 3 ?_ ?_
 refine bj (args:=[.imm ((stI cH dc dp (msM n l) (msM n l).length).bp.2.map Pb.v),.imm ((stI cH dc dp (msM n l) (msM n l).length).bp.2.map Pb.v)]) kq kq kq kq (yn n l) iM iM lv ?_
 refine qr 2 ?_ ?_
 refine qc [] (rJ) ?_ ?_
 refine qX 2 ?_ ?_
 refine a7 (b:=true) (.inr rfl) kq ?_
 · rfl
 iterate 27 kernel_rfl
end Go.Proofs.YtcpklndelobigaaGreatDoor
