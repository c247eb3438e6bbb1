/- Modules of the reference; SameProblems on one list; Sums of declarations of fq alone. Conditions: sizes that can be had. -/
import Derived.Test.YtcpklndelobigaaGreatDoorMD
set_option linter.all false
namespace Go.Proofs.YtcpklndelobigaaGreatDoor
open Go.Proofs.YtcpklndelobigaaGreatDoor.Abs
set_option maxRecDepth 20000
set_option maxHeartbeats 4000000
def mdX (d:Dc) (i:Nat):Dc:=⟨d.kind,d.name,d.sum,d.tab,10 * ((i:Nat):Int)+6,10 * ((i:Nat):Int),10 * ((i:Nat):Int)+9⟩
def mdS (ds:List Dc) (l:List Int):Nat→List Dc×List Dc
 | 0=>([],[])
 | i+1=>if aJ l (i+7) 2=0 then (if aJ l (i+8) 9=0 then ((mdS ds l i).1++[mdX (ds.getD i Dc.zero) i],(mdS ds l i).2++[mdX (ds.getD i Dc.zero) i]) else ((mdS ds l i).1++[mdX (ds.getD i Dc.zero) i],(mdS ds l i).2))
  else (if aJ l (i+8) 9=0 then ((mdS ds l i).1,(mdS ds l i).2++[mdX (ds.getD i Dc.zero) i]++[mdX (ds.getD i Dc.zero) i]) else ((mdS ds l i).1,(mdS ds l i).2++[mdX (ds.getD i Dc.zero) i]))
def nS (ds:List Dc) (l:List Int):List Md:=[⟨[97,112,112],(mdS ds l ds.length).1⟩,⟨[98,97,115,101],(mdS ds l ds.length).2⟩]
section
variable {ds:List Dc} {l:List Int} {i:Nat}
theorem Cl (h1:aJ l (i+7) 2=0) (h2:aJ l (i+8) 9=0):mdS ds l (i+1)=((mdS ds l i).1++[mdX (ds.getD i Dc.zero) i],(mdS ds l i).2++[mdX (ds.getD i Dc.zero) i]):=by rw [mdS,if_pos h1,if_pos h2]
theorem Cj (h1:aJ l (i+7) 2=0) (h2:¬ aJ l (i+8) 9=0):mdS ds l (i+1)=((mdS ds l i).1++[mdX (ds.getD i Dc.zero) i],(mdS ds l i).2):=by rw [mdS,if_pos h1,if_neg h2]
theorem Cf (h1:¬ aJ l (i+7) 2=0) (h2:aJ l (i+8) 9=0):mdS ds l (i+1)=((mdS ds l i).1,(mdS ds l i).2++[mdX (ds.getD i Dc.zero) i]++[mdX (ds.getD i Dc.zero) i]):=by rw [mdS,if_neg h1,if_pos h2]
theorem BE (h1:¬ aJ l (i+7) 2=0) (h2:¬ aJ l (i+8) 9=0):mdS ds l (i+1)=((mdS ds l i).1,(mdS ds l i).2++[mdX (ds.getD i Dc.zero) i]):=by rw [mdS,if_neg h1,if_neg h2]
end
theorem oG (ds:List Dc) (l:List Int):∀ i,(mdS ds l i).1.length≤i∧(mdS ds l i).2.length≤2 * i
 | 0=>⟨Nat.le_refl _,Nat.le_refl _⟩
 | i+1=>by
  have h:=oG ds l i
  rw [mdS]
  split <;> split <;> simp <;> omega
theorem s4 (ds:List Dc) (l:List Int):∀ i d,(d∈(mdS ds l i).1∨d∈(mdS ds l i).2)→∃ j,j<i∧d=mdX (ds.getD j Dc.zero) j
 | 0,d,h=>by rcases h with h|h <;> cases h
 | i+1,d,h=>by
  have key:(d∈(mdS ds l i).1∨d∈(mdS ds l i).2)∨d=mdX (ds.getD i Dc.zero) i:=by
   rw [mdS] at h
   split at h <;> split at h <;> simp only [List.mem_append,List.mem_singleton] at h <;> rcases h with h|h <;> (try rcases h with h|h) <;> (try rcases h with h|h) <;> simp_all
  rcases key with q|q
  · obtain ⟨j,h1,h2⟩:=s4 ds l i d q
    exact ⟨j,by omega,h2⟩
  · exact ⟨i,by omega,q⟩
theorem xd (l:List Int) (q:Nat) (H:ae) (hl:my l) (h:aJ l q 2=0):aL cx 15 [.imm (l.map (.int .i64)),.int .i64 ((q:Nat):Int),.int .i64 2] H (fun v h'=>v=.int .i64 0∧h'=H):=by
 have:=d8 l q 2 hl dq
 rw [h] at this
 exact sF this (by simp [aZ,aa.frz]) (by simp [av,aa.bel]) ⟨rfl,by simp [cW,aO,aa.owns]⟩
theorem xK (l:List Int) (q:Nat) (H:ae) (hl:my l) (h:¬ aJ l q 2=0):aL cx 15 [.imm (l.map (.int .i64)),.int .i64 ((q:Nat):Int),.int .i64 2] H (fun v h'=>v=.int .i64 1∧h'=H):=by
 have:=d8 l q 2 hl dq
 have hb:=pG l q 2 dq
 rw [show aJ l q 2=1 by omega] at this
 exact sF this (by simp [aZ,aa.frz]) (by simp [av,aa.bel]) ⟨rfl,by simp [cW,aO,aa.owns]⟩
noncomputable def c16:Code:=aT Tryz.f16
theorem uR {p:Prop} (h:p:=by simp [Ty.v,Ex.v,Ct.v,Co.v,Rf.v,Sm.v,Tb.v_cs,Sc.v,Md.v,Pb.v,Ls.v,-List.map_take,-List.map_drop,-List.map_append]):p:=h
theorem Cr {p:Prop} (h:p:=by simp [fA,aO,aa.owns,Ty.v,Ex.v,Ct.v,Co.v,Rf.v,Sm.v,Tb.v_cs,Sc.v,Md.v,Pb.v,Ls.v,-List.map_take,-List.map_drop,-List.map_append]):p:=h
theorem pY {p:Prop} (h:p:=by simp;omega):p:=h
theorem uP (ds:List Dc) (l:List Int) (hn:ds.length≤20) (hl:my l):ao cx 16 [.imm (ds.map Dc.v),.imm (l.map (aa.int .i64))] (.imm ((nS ds l).map Md.v)):=by
 refine aC (cx:=cx) 65 0 [(ResultVar.tmp 4)] Tryz.func16 rfl rfl rfl rfl rfl zq ?_
 show wpA cx 65 0 (at_ c16 []) _ _ _
 refine qZ [(0,.imm (ds.map Dc.v)),(1,.imm (l.map (aa.int .i64)))] [] ?_ ?_
 refine qU 1 [(0,.imm (ds.map Dc.v)),(1,.imm (l.map (aa.int .i64)))] ?_ ?_
 refine qV 2 ?_ ?_
 refine AH (r:=(.full [.agg [.str [97,112,112],.full []],.agg [.str [98,97,115,101],.full []]],[])) (q:=(.own 0 0 2,[.arr 2 [.agg [.str [97,112,112],.full []],.agg [.str [98,97,115,101],.full []]] 0])) kq kq kq kq ?_
 refine qR 1 [(0,.imm (ds.map Dc.v)),(1,.imm (l.map (aa.int .i64))),(5,.own 0 0 2)] [.arr 2 [.agg [.str [97,112,112],.full []],.agg [.str [98,97,115,101],.full []]] 0] ?_ ?_
 refine yW 0 0 1 37 (sz:=2) (fr:=0) (es:=[.agg [.str [97,112,112],.full []],.agg [.str [98,97,115,101],.full []]]) (cs:=[.str [97,112,112],.full []]) [.agg [.str [97,112,112],.own 1 0 0],.agg [.str [98,97,115,101],.full []]] dq kq kq kq kq ?_
 refine yW 0 1 1 37 (sz:=2) (fr:=0) (es:=[.agg [.str [97,112,112],.own 1 0 0],.agg [.str [98,97,115,101],.full []]]) (cs:=[.str [98,97,115,101],.full []]) [.agg [.str [97,112,112],.own 1 0 0],.agg [.str [98,97,115,101],.own 2 0 0]] dq kq kq kq kq ?_
 refine qZ [(0,.imm (ds.map Dc.v)),(1,.imm (l.map (aa.int .i64))),(5,.own 0 0 2)] [.arr 2 [.agg [.str [97,112,112],.own 1 0 0],.agg [.str [98,97,115,101],.own 2 0 0]] 0,.arr 37 (([]:List (Dc)).map Dc.v) 0,.arr 37 (([]:List (Dc)).map Dc.v) 0] ?_ ?_
 refine az ?_ ?_
 refine qU 1 [(0,.imm (ds.map Dc.v)),(1,.imm (l.map (aa.int .i64))),(5,.own 0 0 2),(6,.int .i64 0)] ?_ ?_
 refine qB 0 ?_ ?_ ?_
 refine bn (σ:=Nat) (fun i=>[(0,.imm (ds.map Dc.v)),(1,.imm (l.map (aa.int .i64))),(5,.own 0 0 2),(6,.int .i64 ((i:Nat):Int))]) (fun i=>[.arr 2 [.agg [.str [97,112,112],.own 1 0 (mdS ds l i).1.length],.agg [.str [98,97,115,101],.own 2 0 (mdS ds l i).2.length]] 0,.arr 37 ((mdS ds l i).1.map Dc.v) 0,.arr 37 ((mdS ds l i).2.map Dc.v) 0]) (fun i=>i≤ds.length) (fun i=>ds.length - i) 0 kq (by exact Nat.zero_le _) ⟨⟨kq,kq,kq,kq,trivial⟩,by simp [aG,aa.bel],by simp,(Eq.trans (b:=[.arr 2 [.agg [.str [97,112,112],.own 1 0 0],.agg [.str [98,97,115,101],.own 2 0 0]] 0,.arr 37 (([]:List (Dc)).map Dc.v) 0,.arr 37 (([]:List (Dc)).map Dc.v) 0]) kq kq),by simp [ai.belO,av,aB,aa.bel,Ty.v,Ex.v,Ct.v,Co.v,Rf.v,Sm.v,Tb.v_cs,Sc.v,Md.v,Pb.v,Ls.v,-List.map_take,-List.map_drop,-List.map_append]⟩ ?_
 rintro i hi
 have hab:=oG ds l i
 refine az ?_ ?_
 refine qV 2 ?_ ?_
 refine qy (aw (l:=ds) (enc:=Dc.v) kq dG) ?_ ?_ ?_
 refine qR 1 [(0,.imm (ds.map Dc.v)),(1,.imm (l.map (aa.int .i64))),(5,.own 0 0 2),(6,nI i),(15,.bool (decide (((i:Nat):Int)<((ds.length:Nat):Int))))] [.arr 2 [.agg [.str [97,112,112],.own 1 0 (mdS ds l i).1.length],.agg [.str [98,97,115,101],.own 2 0 (mdS ds l i).2.length]] 0,.arr 37 ((mdS ds l i).1.map Dc.v) 0,.arr 37 ((mdS ds l i).2.map Dc.v) 0] ?_ ?_
 by_cases hb1:((i:Nat):Int)<((ds.length:Nat):Int)
 refine qt (decide_eq_true hb1) ?_ ?_
 refine qK ?_ ?_
 refine qz [(0,.imm (ds.map Dc.v)),(1,.imm (l.map (aa.int .i64))),(5,.own 0 0 2),(6,nI i)] ?_ ?_
 refine az ?_ ?_
 refine qB 1 ?_ ?_ ?_
 refine qV 2 ?_ ?_
 refine qy ((aA (k:=.i64) (l:=ds) (enc:=Dc.v) (i:=((i:Nat):Int)) Dc.zero kq dG iV (fun _=>rfl) oq oq).trans (congrArg (fun cs=>some (aa.pimm cs 0,_)) (eR (ds.getD i Dc.zero)))) ?_ ?_ ?_
 refine qR 3 [(0,.imm (ds.map Dc.v)),(1,.imm (l.map (aa.int .i64))),(5,.own 0 0 2),(6,nI i),(7,.ptr 3 0)] [.arr 2 [.agg [.str [97,112,112],.own 1 0 (mdS ds l i).1.length],.agg [.str [98,97,115,101],.own 2 0 (mdS ds l i).2.length]] 0,.arr 37 ((mdS ds l i).1.map Dc.v) 0,.arr 37 ((mdS ds l i).2.map Dc.v) 0,.box (Dc.cs (ds.getD i Dc.zero))] ?_ ?_
 refine qV 1 ?_ ?_
 refine qy (sR (a:=10) (b:=((i:Nat):Int)) kq oq oq) ?_ ?_ ?_
 refine qy (aI (a:=(((10 * i):Nat):Int)) (b:=6) kq oq oq) ?_ ?_ ?_
 refine qR 2 [(0,.imm (ds.map Dc.v)),(1,.imm (l.map (aa.int .i64))),(5,.own 0 0 2),(6,nI i),(7,.ptr 3 0)] [.arr 2 [.agg [.str [97,112,112],.own 1 0 (mdS ds l i).1.length],.agg [.str [98,97,115,101],.own 2 0 (mdS ds l i).2.length]] 0,.arr 37 ((mdS ds l i).1.map Dc.v) 0,.arr 37 ((mdS ds l i).2.map Dc.v) 0,.box [.int .i64 ((ds.getD i Dc.zero).kind),.str (ds.getD i Dc.zero).name,.str (ds.getD i Dc.zero).sum.name,.imm ((ds.getD i Dc.zero).sum.ctors.map Ct.v),.str (ds.getD i Dc.zero).tab.name,.imm ((ds.getD i Dc.zero).tab.cols.map Co.v),.imm ((ds.getD i Dc.zero).tab.key.map aa.str),.imm ((ds.getD i Dc.zero).tab.refs.map Rf.v),.int .i64 ((ds.getD i Dc.zero).tab.chk.kind),.str (ds.getD i Dc.zero).tab.chk.name,.int .i64 ((ds.getD i Dc.zero).tab.chk.n),.str (ds.getD i Dc.zero).tab.chk.s,.imm ((ds.getD i Dc.zero).tab.chk.names.map aa.str),.imm ((ds.getD i Dc.zero).tab.chk.binds.map aa.str),.imm ((ds.getD i Dc.zero).tab.chk.kids.map Ex.enc),.int .i64 ((ds.getD i Dc.zero).tab.chk.pos),.int .i64 ((ds.getD i Dc.zero).tab.chk.fin),.imm [],.bool false,.int .i64 0,.str [],.int .i64 0,.imm [],.imm [],.int .i64 0,.str [],.int .i64 0,.str [],.imm [],.imm [],.imm [],.int .i64 0,.int .i64 0,.imm [],nI (((10 * i)+6)),.int .i64 ((ds.getD i Dc.zero).pos),.int .i64 ((ds.getD i Dc.zero).fin)]] ?_ ?_
 refine qV 1 ?_ ?_
 refine qy (sR (a:=10) (b:=((i:Nat):Int)) kq oq oq) ?_ ?_ ?_
 refine qR 2 [(0,.imm (ds.map Dc.v)),(1,.imm (l.map (aa.int .i64))),(5,.own 0 0 2),(6,nI i),(7,.ptr 3 0)] [.arr 2 [.agg [.str [97,112,112],.own 1 0 (mdS ds l i).1.length],.agg [.str [98,97,115,101],.own 2 0 (mdS ds l i).2.length]] 0,.arr 37 ((mdS ds l i).1.map Dc.v) 0,.arr 37 ((mdS ds l i).2.map Dc.v) 0,.box [.int .i64 ((ds.getD i Dc.zero).kind),.str (ds.getD i Dc.zero).name,.str (ds.getD i Dc.zero).sum.name,.imm ((ds.getD i Dc.zero).sum.ctors.map Ct.v),.str (ds.getD i Dc.zero).tab.name,.imm ((ds.getD i Dc.zero).tab.cols.map Co.v),.imm ((ds.getD i Dc.zero).tab.key.map aa.str),.imm ((ds.getD i Dc.zero).tab.refs.map Rf.v),.int .i64 ((ds.getD i Dc.zero).tab.chk.kind),.str (ds.getD i Dc.zero).tab.chk.name,.int .i64 ((ds.getD i Dc.zero).tab.chk.n),.str (ds.getD i Dc.zero).tab.chk.s,.imm ((ds.getD i Dc.zero).tab.chk.names.map aa.str),.imm ((ds.getD i Dc.zero).tab.chk.binds.map aa.str),.imm ((ds.getD i Dc.zero).tab.chk.kids.map Ex.enc),.int .i64 ((ds.getD i Dc.zero).tab.chk.pos),.int .i64 ((ds.getD i Dc.zero).tab.chk.fin),.imm [],.bool false,.int .i64 0,.str [],.int .i64 0,.imm [],.imm [],.int .i64 0,.str [],.int .i64 0,.str [],.imm [],.imm [],.imm [],.int .i64 0,.int .i64 0,.imm [],nI (((10 * i)+6)),nI (10 * i),.int .i64 ((ds.getD i Dc.zero).fin)]] ?_ ?_
 refine qV 1 ?_ ?_
 refine qy (sR (a:=10) (b:=((i:Nat):Int)) kq oq oq) ?_ ?_ ?_
 refine qy (aI (a:=(((10 * i):Nat):Int)) (b:=9) kq oq oq) ?_ ?_ ?_
 refine qR 2 [(0,.imm (ds.map Dc.v)),(1,.imm (l.map (aa.int .i64))),(5,.own 0 0 2),(6,nI i),(7,.ptr 3 0)] [.arr 2 [.agg [.str [97,112,112],.own 1 0 (mdS ds l i).1.length],.agg [.str [98,97,115,101],.own 2 0 (mdS ds l i).2.length]] 0,.arr 37 ((mdS ds l i).1.map Dc.v) 0,.arr 37 ((mdS ds l i).2.map Dc.v) 0,.box [.int .i64 ((ds.getD i Dc.zero).kind),.str (ds.getD i Dc.zero).name,.str (ds.getD i Dc.zero).sum.name,.imm ((ds.getD i Dc.zero).sum.ctors.map Ct.v),.str (ds.getD i Dc.zero).tab.name,.imm ((ds.getD i Dc.zero).tab.cols.map Co.v),.imm ((ds.getD i Dc.zero).tab.key.map aa.str),.imm ((ds.getD i Dc.zero).tab.refs.map Rf.v),.int .i64 ((ds.getD i Dc.zero).tab.chk.kind),.str (ds.getD i Dc.zero).tab.chk.name,.int .i64 ((ds.getD i Dc.zero).tab.chk.n),.str (ds.getD i Dc.zero).tab.chk.s,.imm ((ds.getD i Dc.zero).tab.chk.names.map aa.str),.imm ((ds.getD i Dc.zero).tab.chk.binds.map aa.str),.imm ((ds.getD i Dc.zero).tab.chk.kids.map Ex.enc),.int .i64 ((ds.getD i Dc.zero).tab.chk.pos),.int .i64 ((ds.getD i Dc.zero).tab.chk.fin),.imm [],.bool false,.int .i64 0,.str [],.int .i64 0,.imm [],.imm [],.int .i64 0,.str [],.int .i64 0,.str [],.imm [],.imm [],.imm [],.int .i64 0,.int .i64 0,.imm [],nI (((10 * i)+6)),nI (10 * i),nI (((10 * i)+9))]] ?_ ?_
 refine qV 2 ?_ ?_
 refine qy (aI (a:=((i:Nat):Int)) (b:=7) kq oq oq) ?_ ?_ ?_
 by_cases hb2:aJ l (i+7) 2=0
 refine iQ (args:=[.imm (l.map (aa.int .i64)),.int .i64 (((i+7):Nat):Int),.int .i64 2]) (v:=.int .i64 0) (h':=[.arr 2 [.agg [.str [97,112,112],.own 1 0 (mdS ds l i).1.length],.agg [.str [98,97,115,101],.own 2 0 (mdS ds l i).2.length]] 0,.arr 37 ((mdS ds l i).1.map Dc.v) 0,.arr 37 ((mdS ds l i).2.map Dc.v) 0,.box [.int .i64 ((ds.getD i Dc.zero).kind),.str (ds.getD i Dc.zero).name,.str (ds.getD i Dc.zero).sum.name,.imm ((ds.getD i Dc.zero).sum.ctors.map Ct.v),.str (ds.getD i Dc.zero).tab.name,.imm ((ds.getD i Dc.zero).tab.cols.map Co.v),.imm ((ds.getD i Dc.zero).tab.key.map aa.str),.imm ((ds.getD i Dc.zero).tab.refs.map Rf.v),.int .i64 ((ds.getD i Dc.zero).tab.chk.kind),.str (ds.getD i Dc.zero).tab.chk.name,.int .i64 ((ds.getD i Dc.zero).tab.chk.n),.str (ds.getD i Dc.zero).tab.chk.s,.imm ((ds.getD i Dc.zero).tab.chk.names.map aa.str),.imm ((ds.getD i Dc.zero).tab.chk.binds.map aa.str),.imm ((ds.getD i Dc.zero).tab.chk.kids.map Ex.enc),.int .i64 ((ds.getD i Dc.zero).tab.chk.pos),.int .i64 ((ds.getD i Dc.zero).tab.chk.fin),.imm [],.bool false,.int .i64 0,.str [],.int .i64 0,.imm [],.imm [],.int .i64 0,.str [],.int .i64 0,.str [],.imm [],.imm [],.imm [],.int .i64 0,.int .i64 0,.imm [],.int .i64 ((((10 * i)+6):Nat):Int),.int .i64 (((10 * i):Nat):Int),.int .i64 ((((10 * i)+9):Nat):Int)]]) [.arr 2 [.agg [.str [97,112,112],.own 1 0 (mdS ds l i).1.length],.agg [.str [98,97,115,101],.own 2 0 (mdS ds l i).2.length]] 0,.arr 37 ((mdS ds l i).1.map Dc.v) 0,.arr 37 ((mdS ds l i).2.map Dc.v) 0,.box [.int .i64 ((ds.getD i Dc.zero).kind),.str (ds.getD i Dc.zero).name,.str (ds.getD i Dc.zero).sum.name,.imm ((ds.getD i Dc.zero).sum.ctors.map Ct.v),.str (ds.getD i Dc.zero).tab.name,.imm ((ds.getD i Dc.zero).tab.cols.map Co.v),.imm ((ds.getD i Dc.zero).tab.key.map aa.str),.imm ((ds.getD i Dc.zero).tab.refs.map Rf.v),.int .i64 ((ds.getD i Dc.zero).tab.chk.kind),.str (ds.getD i Dc.zero).tab.chk.name,.int .i64 ((ds.getD i Dc.zero).tab.chk.n),.str (ds.getD i Dc.zero).tab.chk.s,.imm ((ds.getD i Dc.zero).tab.chk.names.map aa.str),.imm ((ds.getD i Dc.zero).tab.chk.binds.map aa.str),.imm ((ds.getD i Dc.zero).tab.chk.kids.map Ex.enc),.int .i64 ((ds.getD i Dc.zero).tab.chk.pos),.int .i64 ((ds.getD i Dc.zero).tab.chk.fin),.imm [],.bool false,.int .i64 0,.str [],.int .i64 0,.imm [],.imm [],.int .i64 0,.str [],.int .i64 0,.str [],.imm [],.imm [],.imm [],.int .i64 0,.int .i64 0,.imm [],.int .i64 ((((10 * i)+6):Nat):Int),.int .i64 (((10 * i):Nat):Int),.int .i64 ((((10 * i)+9):Nat):Int)]] kq kq kq kq kq (xd l (i+7) _ hl hb2) ?_
 refine qR 1 [(0,.imm (ds.map Dc.v)),(1,.imm (l.map (aa.int .i64))),(5,.own 0 0 2),(6,nI i),(7,.ptr 3 0),(8,.int .i64 0)] [.arr 2 [.agg [.str [97,112,112],.own 1 0 (mdS ds l i).1.length],.agg [.str [98,97,115,101],.own 2 0 (mdS ds l i).2.length]] 0,.arr 37 ((mdS ds l i).1.map Dc.v) 0,.arr 37 ((mdS ds l i).2.map Dc.v) 0,.box [.int .i64 ((ds.getD i Dc.zero).kind),.str (ds.getD i Dc.zero).name,.str (ds.getD i Dc.zero).sum.name,.imm ((ds.getD i Dc.zero).sum.ctors.map Ct.v),.str (ds.getD i Dc.zero).tab.name,.imm ((ds.getD i Dc.zero).tab.cols.map Co.v),.imm ((ds.getD i Dc.zero).tab.key.map aa.str),.imm ((ds.getD i Dc.zero).tab.refs.map Rf.v),.int .i64 ((ds.getD i Dc.zero).tab.chk.kind),.str (ds.getD i Dc.zero).tab.chk.name,.int .i64 ((ds.getD i Dc.zero).tab.chk.n),.str (ds.getD i Dc.zero).tab.chk.s,.imm ((ds.getD i Dc.zero).tab.chk.names.map aa.str),.imm ((ds.getD i Dc.zero).tab.chk.binds.map aa.str),.imm ((ds.getD i Dc.zero).tab.chk.kids.map Ex.enc),.int .i64 ((ds.getD i Dc.zero).tab.chk.pos),.int .i64 ((ds.getD i Dc.zero).tab.chk.fin),.imm [],.bool false,.int .i64 0,.str [],.int .i64 0,.imm [],.imm [],.int .i64 0,.str [],.int .i64 0,.str [],.imm [],.imm [],.imm [],.int .i64 0,.int .i64 0,.imm [],nI (((10 * i)+6)),nI (10 * i),nI (((10 * i)+9))]] ?_ ?_
 refine az ?_ ?_
 refine b6 cxM kq ap (aU ?_)
 refine qu 9 ?_ ?_
 refine qD (cw (o:=1) (len:=((mdS ds l i).1.length)) (l:=(mdS ds l i).1) (xs:=[(Dc.mk ((ds.getD i Dc.zero).kind) ((ds.getD i Dc.zero).name) ((ds.getD i Dc.zero).sum) ((ds.getD i Dc.zero).tab) ((((10 * i)+6):Nat):Int) (((10 * i):Nat):Int) ((((10 * i)+9):Nat):Int))]) (enc:=Dc.v) (sz:=37) (fr:=0) (x:=(.full [.agg [.int .i64 ((ds.getD i Dc.zero).kind),.str (ds.getD i Dc.zero).name,.str (ds.getD i Dc.zero).sum.name,.imm ((ds.getD i Dc.zero).sum.ctors.map Ct.v),.str (ds.getD i Dc.zero).tab.name,.imm ((ds.getD i Dc.zero).tab.cols.map Co.v),.imm ((ds.getD i Dc.zero).tab.key.map aa.str),.imm ((ds.getD i Dc.zero).tab.refs.map Rf.v),.int .i64 ((ds.getD i Dc.zero).tab.chk.kind),.str (ds.getD i Dc.zero).tab.chk.name,.int .i64 ((ds.getD i Dc.zero).tab.chk.n),.str (ds.getD i Dc.zero).tab.chk.s,.imm ((ds.getD i Dc.zero).tab.chk.names.map aa.str),.imm ((ds.getD i Dc.zero).tab.chk.binds.map aa.str),.imm ((ds.getD i Dc.zero).tab.chk.kids.map Ex.enc),.int .i64 ((ds.getD i Dc.zero).tab.chk.pos),.int .i64 ((ds.getD i Dc.zero).tab.chk.fin),.imm [],.bool false,.int .i64 0,.str [],.int .i64 0,.imm [],.imm [],.int .i64 0,.str [],.int .i64 0,.str [],.imm [],.imm [],.imm [],.int .i64 0,.int .i64 0,.imm [],.int .i64 ((((10 * i)+6):Nat):Int),.int .i64 (((10 * i):Nat):Int),.int .i64 ((((10 * i)+9):Nat):Int)]])) kq dG iV dG rfl kq rfl rfl kq ⟨by decide,by kernel_rfl⟩ (fun _=>rfl) pY pY) ?_ ?_ ?_ ?_
 refine qu 3 ?_ ?_
 refine bG kq ⟨kq,?_⟩
 refine ab ?_
 refine qZ [(0,.imm (ds.map Dc.v)),(1,.imm (l.map (aa.int .i64))),(5,.own 0 0 2),(6,nI i),(7,.ptr 3 0)] [.arr 2 [.agg [.str [97,112,112],.own 1 0 ((mdS ds l i).1++[(Dc.mk ((ds.getD i Dc.zero).kind) ((ds.getD i Dc.zero).name) ((ds.getD i Dc.zero).sum) ((ds.getD i Dc.zero).tab) ((((10 * i)+6):Nat):Int) (((10 * i):Nat):Int) ((((10 * i)+9):Nat):Int))]).length],.agg [.str [98,97,115,101],.own 2 0 (mdS ds l i).2.length]] 0,.arr 37 (((mdS ds l i).1++[(Dc.mk ((ds.getD i Dc.zero).kind) ((ds.getD i Dc.zero).name) ((ds.getD i Dc.zero).sum) ((ds.getD i Dc.zero).tab) ((((10 * i)+6):Nat):Int) (((10 * i):Nat):Int) ((((10 * i)+9):Nat):Int))]).map Dc.v) 0,.arr 37 ((mdS ds l i).2.map Dc.v) 0,.box [.int .i64 ((ds.getD i Dc.zero).kind),.str (ds.getD i Dc.zero).name,.str (ds.getD i Dc.zero).sum.name,.imm ((ds.getD i Dc.zero).sum.ctors.map Ct.v),.str (ds.getD i Dc.zero).tab.name,.imm ((ds.getD i Dc.zero).tab.cols.map Co.v),.imm ((ds.getD i Dc.zero).tab.key.map aa.str),.imm ((ds.getD i Dc.zero).tab.refs.map Rf.v),.int .i64 ((ds.getD i Dc.zero).tab.chk.kind),.str (ds.getD i Dc.zero).tab.chk.name,.int .i64 ((ds.getD i Dc.zero).tab.chk.n),.str (ds.getD i Dc.zero).tab.chk.s,.imm ((ds.getD i Dc.zero).tab.chk.names.map aa.str),.imm ((ds.getD i Dc.zero).tab.chk.binds.map aa.str),.imm ((ds.getD i Dc.zero).tab.chk.kids.map Ex.enc),.int .i64 ((ds.getD i Dc.zero).tab.chk.pos),.int .i64 ((ds.getD i Dc.zero).tab.chk.fin),.imm [],.bool false,.int .i64 0,.str [],.int .i64 0,.imm [],.imm [],.int .i64 0,.str [],.int .i64 0,.str [],.imm [],.imm [],.imm [],.int .i64 0,.int .i64 0,.imm [],nI (((10 * i)+6)),nI (10 * i),nI (((10 * i)+9))]] ?_ ?_
 refine qV 2 ?_ ?_
 refine qy (aI (a:=((i:Nat):Int)) (b:=8) kq oq oq) ?_ ?_ ?_
 refine bj (args:=[.imm (l.map (aa.int .i64)),.int .i64 (((i+8):Nat):Int),.int .i64 9]) kq kq kq kq (d8 l (i+8) 9 hl dq) uR uR Cr ?_
 refine qR 1 [(0,.imm (ds.map Dc.v)),(1,.imm (l.map (aa.int .i64))),(5,.own 0 0 2),(6,nI i),(7,.ptr 3 0),(53,.bool ((aJ l (i+8) 9)==0))] [.arr 2 [.agg [.str [97,112,112],.own 1 0 ((mdS ds l i).1++[(Dc.mk ((ds.getD i Dc.zero).kind) ((ds.getD i Dc.zero).name) ((ds.getD i Dc.zero).sum) ((ds.getD i Dc.zero).tab) ((((10 * i)+6):Nat):Int) (((10 * i):Nat):Int) ((((10 * i)+9):Nat):Int))]).length],.agg [.str [98,97,115,101],.own 2 0 (mdS ds l i).2.length]] 0,.arr 37 (((mdS ds l i).1++[(Dc.mk ((ds.getD i Dc.zero).kind) ((ds.getD i Dc.zero).name) ((ds.getD i Dc.zero).sum) ((ds.getD i Dc.zero).tab) ((((10 * i)+6):Nat):Int) (((10 * i):Nat):Int) ((((10 * i)+9):Nat):Int))]).map Dc.v) 0,.arr 37 ((mdS ds l i).2.map Dc.v) 0,.box [.int .i64 ((ds.getD i Dc.zero).kind),.str (ds.getD i Dc.zero).name,.str (ds.getD i Dc.zero).sum.name,.imm ((ds.getD i Dc.zero).sum.ctors.map Ct.v),.str (ds.getD i Dc.zero).tab.name,.imm ((ds.getD i Dc.zero).tab.cols.map Co.v),.imm ((ds.getD i Dc.zero).tab.key.map aa.str),.imm ((ds.getD i Dc.zero).tab.refs.map Rf.v),.int .i64 ((ds.getD i Dc.zero).tab.chk.kind),.str (ds.getD i Dc.zero).tab.chk.name,.int .i64 ((ds.getD i Dc.zero).tab.chk.n),.str (ds.getD i Dc.zero).tab.chk.s,.imm ((ds.getD i Dc.zero).tab.chk.names.map aa.str),.imm ((ds.getD i Dc.zero).tab.chk.binds.map aa.str),.imm ((ds.getD i Dc.zero).tab.chk.kids.map Ex.enc),.int .i64 ((ds.getD i Dc.zero).tab.chk.pos),.int .i64 ((ds.getD i Dc.zero).tab.chk.fin),.imm [],.bool false,.int .i64 0,.str [],.int .i64 0,.imm [],.imm [],.int .i64 0,.str [],.int .i64 0,.str [],.imm [],.imm [],.imm [],.int .i64 0,.int .i64 0,.imm [],nI (((10 * i)+6)),nI (10 * i),nI (((10 * i)+9))]] ?_ ?_
 by_cases hb3:(aJ l (i+8) 9)=0
 refine qt (beq_iff_eq.2 hb3) ?_ ?_
 refine b6 cxM kq (dL ap) (aU ?_)
 refine qu 7 ?_ ?_
 refine qD (cw (o:=2) (len:=((mdS ds l i).2.length)) (l:=(mdS ds l i).2) (xs:=[(Dc.mk ((ds.getD i Dc.zero).kind) ((ds.getD i Dc.zero).name) ((ds.getD i Dc.zero).sum) ((ds.getD i Dc.zero).tab) ((((10 * i)+6):Nat):Int) (((10 * i):Nat):Int) ((((10 * i)+9):Nat):Int))]) (enc:=Dc.v) (sz:=37) (fr:=0) (x:=(.full [.agg [.int .i64 ((ds.getD i Dc.zero).kind),.str (ds.getD i Dc.zero).name,.str (ds.getD i Dc.zero).sum.name,.imm ((ds.getD i Dc.zero).sum.ctors.map Ct.v),.str (ds.getD i Dc.zero).tab.name,.imm ((ds.getD i Dc.zero).tab.cols.map Co.v),.imm ((ds.getD i Dc.zero).tab.key.map aa.str),.imm ((ds.getD i Dc.zero).tab.refs.map Rf.v),.int .i64 ((ds.getD i Dc.zero).tab.chk.kind),.str (ds.getD i Dc.zero).tab.chk.name,.int .i64 ((ds.getD i Dc.zero).tab.chk.n),.str (ds.getD i Dc.zero).tab.chk.s,.imm ((ds.getD i Dc.zero).tab.chk.names.map aa.str),.imm ((ds.getD i Dc.zero).tab.chk.binds.map aa.str),.imm ((ds.getD i Dc.zero).tab.chk.kids.map Ex.enc),.int .i64 ((ds.getD i Dc.zero).tab.chk.pos),.int .i64 ((ds.getD i Dc.zero).tab.chk.fin),.imm [],.bool false,.int .i64 0,.str [],.int .i64 0,.imm [],.imm [],.int .i64 0,.str [],.int .i64 0,.str [],.imm [],.imm [],.imm [],.int .i64 0,.int .i64 0,.imm [],.int .i64 ((((10 * i)+6):Nat):Int),.int .i64 (((10 * i):Nat):Int),.int .i64 ((((10 * i)+9):Nat):Int)]])) kq dG iV dG rfl kq rfl rfl kq ⟨by decide,by kernel_rfl⟩ (fun _=>rfl) pY pY) ?_ ?_ ?_ ?_
 refine qu 3 ?_ ?_
 refine bG kq ⟨kq,?_⟩
 refine ah ?_
 refine ab ?_
 refine qZ [(0,.imm (ds.map Dc.v)),(1,.imm (l.map (aa.int .i64))),(5,.own 0 0 2),(6,nI i)] [.arr 2 [.agg [.str [97,112,112],.own 1 0 ((mdS ds l i).1++[(Dc.mk ((ds.getD i Dc.zero).kind) ((ds.getD i Dc.zero).name) ((ds.getD i Dc.zero).sum) ((ds.getD i Dc.zero).tab) ((((10 * i)+6):Nat):Int) (((10 * i):Nat):Int) ((((10 * i)+9):Nat):Int))]).length],.agg [.str [98,97,115,101],.own 2 0 ((mdS ds l i).2++[(Dc.mk ((ds.getD i Dc.zero).kind) ((ds.getD i Dc.zero).name) ((ds.getD i Dc.zero).sum) ((ds.getD i Dc.zero).tab) ((((10 * i)+6):Nat):Int) (((10 * i):Nat):Int) ((((10 * i)+9):Nat):Int))]).length]] 0,.arr 37 (((mdS ds l i).1++[(Dc.mk ((ds.getD i Dc.zero).kind) ((ds.getD i Dc.zero).name) ((ds.getD i Dc.zero).sum) ((ds.getD i Dc.zero).tab) ((((10 * i)+6):Nat):Int) (((10 * i):Nat):Int) ((((10 * i)+9):Nat):Int))]).map Dc.v) 0,.arr 37 (((mdS ds l i).2++[(Dc.mk ((ds.getD i Dc.zero).kind) ((ds.getD i Dc.zero).name) ((ds.getD i Dc.zero).sum) ((ds.getD i Dc.zero).tab) ((((10 * i)+6):Nat):Int) (((10 * i):Nat):Int) ((((10 * i)+9):Nat):Int))]).map Dc.v) 0,.box [.int .i64 ((ds.getD i Dc.zero).kind),.str (ds.getD i Dc.zero).name,.str (ds.getD i Dc.zero).sum.name,.imm ((ds.getD i Dc.zero).sum.ctors.map Ct.v),.str (ds.getD i Dc.zero).tab.name,.imm ((ds.getD i Dc.zero).tab.cols.map Co.v),.imm ((ds.getD i Dc.zero).tab.key.map aa.str),.imm ((ds.getD i Dc.zero).tab.refs.map Rf.v),.int .i64 ((ds.getD i Dc.zero).tab.chk.kind),.str (ds.getD i Dc.zero).tab.chk.name,.int .i64 ((ds.getD i Dc.zero).tab.chk.n),.str (ds.getD i Dc.zero).tab.chk.s,.imm ((ds.getD i Dc.zero).tab.chk.names.map aa.str),.imm ((ds.getD i Dc.zero).tab.chk.binds.map aa.str),.imm ((ds.getD i Dc.zero).tab.chk.kids.map Ex.enc),.int .i64 ((ds.getD i Dc.zero).tab.chk.pos),.int .i64 ((ds.getD i Dc.zero).tab.chk.fin),.imm [],.bool false,.int .i64 0,.str [],.int .i64 0,.imm [],.imm [],.int .i64 0,.str [],.int .i64 0,.str [],.imm [],.imm [],.imm [],.int .i64 0,.int .i64 0,.imm [],nI (((10 * i)+6)),nI (10 * i),nI (((10 * i)+9))]] ?_ ?_
 refine qo ?_ ?_
 refine qr 1 ?_ ?_
 refine qy (aI (a:=((i:Nat):Int)) (b:=1) kq oq oq) ?_ ?_ ?_
 refine qr 1 ?_ ?_
 refine qe ?_ ?_
 refine ab ⟨i+1,?_,?_,⟨⟨kq,kq,kq,kq,trivial⟩,by simp [aG,aa.bel],by simp,(Eq.trans (b:=[.arr 2 [.agg [.str [97,112,112],.own 1 0 ((mdS ds l i).1++[(Dc.mk ((ds.getD i Dc.zero).kind) ((ds.getD i Dc.zero).name) ((ds.getD i Dc.zero).sum) ((ds.getD i Dc.zero).tab) ((((10 * i)+6):Nat):Int) (((10 * i):Nat):Int) ((((10 * i)+9):Nat):Int))]).length],.agg [.str [98,97,115,101],.own 2 0 ((mdS ds l i).2++[(Dc.mk ((ds.getD i Dc.zero).kind) ((ds.getD i Dc.zero).name) ((ds.getD i Dc.zero).sum) ((ds.getD i Dc.zero).tab) ((((10 * i)+6):Nat):Int) (((10 * i):Nat):Int) ((((10 * i)+9):Nat):Int))]).length]] 0,.arr 37 (((mdS ds l i).1++[(Dc.mk ((ds.getD i Dc.zero).kind) ((ds.getD i Dc.zero).name) ((ds.getD i Dc.zero).sum) ((ds.getD i Dc.zero).tab) ((((10 * i)+6):Nat):Int) (((10 * i):Nat):Int) ((((10 * i)+9):Nat):Int))]).map Dc.v) 0,.arr 37 (((mdS ds l i).2++[(Dc.mk ((ds.getD i Dc.zero).kind) ((ds.getD i Dc.zero).name) ((ds.getD i Dc.zero).sum) ((ds.getD i Dc.zero).tab) ((((10 * i)+6):Nat):Int) (((10 * i):Nat):Int) ((((10 * i)+9):Nat):Int))]).map Dc.v) 0]) kq (by rw [Cl aq aq] <;> (show _=_;kernel_rfl))),by simp [ai.belO,av,aB,aa.bel,Ty.v,Ex.v,Ct.v,Co.v,Rf.v,Sm.v,Tb.v_cs,Sc.v,Md.v,Pb.v,Ls.v,-List.map_take,-List.map_drop,-List.map_append]⟩⟩
 · omega
 · omega
 iterate 13 kernel_rfl
 refine qf (beq_eq_false_iff_ne.2 hb3) ?_ ?_
 refine qk ?_ ?_
 refine ah ?_
 refine ab ?_
 refine qz [(0,.imm (ds.map Dc.v)),(1,.imm (l.map (aa.int .i64))),(5,.own 0 0 2),(6,nI i)] ?_ ?_
 refine qo ?_ ?_
 refine qr 1 ?_ ?_
 refine qy (aI (a:=((i:Nat):Int)) (b:=1) kq oq oq) ?_ ?_ ?_
 refine qr 1 ?_ ?_
 refine qe ?_ ?_
 refine ab ⟨i+1,?_,?_,⟨⟨kq,kq,kq,kq,trivial⟩,by simp [aG,aa.bel],by simp,(Eq.trans (b:=[.arr 2 [.agg [.str [97,112,112],.own 1 0 ((mdS ds l i).1++[(Dc.mk ((ds.getD i Dc.zero).kind) ((ds.getD i Dc.zero).name) ((ds.getD i Dc.zero).sum) ((ds.getD i Dc.zero).tab) ((((10 * i)+6):Nat):Int) (((10 * i):Nat):Int) ((((10 * i)+9):Nat):Int))]).length],.agg [.str [98,97,115,101],.own 2 0 (mdS ds l i).2.length]] 0,.arr 37 (((mdS ds l i).1++[(Dc.mk ((ds.getD i Dc.zero).kind) ((ds.getD i Dc.zero).name) ((ds.getD i Dc.zero).sum) ((ds.getD i Dc.zero).tab) ((((10 * i)+6):Nat):Int) (((10 * i):Nat):Int) ((((10 * i)+9):Nat):Int))]).map Dc.v) 0,.arr 37 ((mdS ds l i).2.map Dc.v) 0]) kq (by rw [Cj aq aq] <;> (show _=_;kernel_rfl))),by simp [ai.belO,av,aB,aa.bel,Ty.v,Ex.v,Ct.v,Co.v,Rf.v,Sm.v,Tb.v_cs,Sc.v,Md.v,Pb.v,Ls.v,-List.map_take,-List.map_drop,-List.map_append]⟩⟩
 · omega
 · omega
 iterate 21 kernel_rfl
 refine iQ (args:=[.imm (l.map (aa.int .i64)),.int .i64 (((i+7):Nat):Int),.int .i64 2]) (v:=.int .i64 1) (h':=[.arr 2 [.agg [.str [97,112,112],.own 1 0 (mdS ds l i).1.length],.agg [.str [98,97,115,101],.own 2 0 (mdS ds l i).2.length]] 0,.arr 37 ((mdS ds l i).1.map Dc.v) 0,.arr 37 ((mdS ds l i).2.map Dc.v) 0,.box [.int .i64 ((ds.getD i Dc.zero).kind),.str (ds.getD i Dc.zero).name,.str (ds.getD i Dc.zero).sum.name,.imm ((ds.getD i Dc.zero).sum.ctors.map Ct.v),.str (ds.getD i Dc.zero).tab.name,.imm ((ds.getD i Dc.zero).tab.cols.map Co.v),.imm ((ds.getD i Dc.zero).tab.key.map aa.str),.imm ((ds.getD i Dc.zero).tab.refs.map Rf.v),.int .i64 ((ds.getD i Dc.zero).tab.chk.kind),.str (ds.getD i Dc.zero).tab.chk.name,.int .i64 ((ds.getD i Dc.zero).tab.chk.n),.str (ds.getD i Dc.zero).tab.chk.s,.imm ((ds.getD i Dc.zero).tab.chk.names.map aa.str),.imm ((ds.getD i Dc.zero).tab.chk.binds.map aa.str),.imm ((ds.getD i Dc.zero).tab.chk.kids.map Ex.enc),.int .i64 ((ds.getD i Dc.zero).tab.chk.pos),.int .i64 ((ds.getD i Dc.zero).tab.chk.fin),.imm [],.bool false,.int .i64 0,.str [],.int .i64 0,.imm [],.imm [],.int .i64 0,.str [],.int .i64 0,.str [],.imm [],.imm [],.imm [],.int .i64 0,.int .i64 0,.imm [],.int .i64 ((((10 * i)+6):Nat):Int),.int .i64 (((10 * i):Nat):Int),.int .i64 ((((10 * i)+9):Nat):Int)]]) [.arr 2 [.agg [.str [97,112,112],.own 1 0 (mdS ds l i).1.length],.agg [.str [98,97,115,101],.own 2 0 (mdS ds l i).2.length]] 0,.arr 37 ((mdS ds l i).1.map Dc.v) 0,.arr 37 ((mdS ds l i).2.map Dc.v) 0,.box [.int .i64 ((ds.getD i Dc.zero).kind),.str (ds.getD i Dc.zero).name,.str (ds.getD i Dc.zero).sum.name,.imm ((ds.getD i Dc.zero).sum.ctors.map Ct.v),.str (ds.getD i Dc.zero).tab.name,.imm ((ds.getD i Dc.zero).tab.cols.map Co.v),.imm ((ds.getD i Dc.zero).tab.key.map aa.str),.imm ((ds.getD i Dc.zero).tab.refs.map Rf.v),.int .i64 ((ds.getD i Dc.zero).tab.chk.kind),.str (ds.getD i Dc.zero).tab.chk.name,.int .i64 ((ds.getD i Dc.zero).tab.chk.n),.str (ds.getD i Dc.zero).tab.chk.s,.imm ((ds.getD i Dc.zero).tab.chk.names.map aa.str),.imm ((ds.getD i Dc.zero).tab.chk.binds.map aa.str),.imm ((ds.getD i Dc.zero).tab.chk.kids.map Ex.enc),.int .i64 ((ds.getD i Dc.zero).tab.chk.pos),.int .i64 ((ds.getD i Dc.zero).tab.chk.fin),.imm [],.bool false,.int .i64 0,.str [],.int .i64 0,.imm [],.imm [],.int .i64 0,.str [],.int .i64 0,.str [],.imm [],.imm [],.imm [],.int .i64 0,.int .i64 0,.imm [],.int .i64 ((((10 * i)+6):Nat):Int),.int .i64 (((10 * i):Nat):Int),.int .i64 ((((10 * i)+9):Nat):Int)]] kq kq kq kq kq (xK l (i+7) _ hl hb2) ?_
 refine qR 1 [(0,.imm (ds.map Dc.v)),(1,.imm (l.map (aa.int .i64))),(5,.own 0 0 2),(6,nI i),(7,.ptr 3 0),(8,.int .i64 1)] [.arr 2 [.agg [.str [97,112,112],.own 1 0 (mdS ds l i).1.length],.agg [.str [98,97,115,101],.own 2 0 (mdS ds l i).2.length]] 0,.arr 37 ((mdS ds l i).1.map Dc.v) 0,.arr 37 ((mdS ds l i).2.map Dc.v) 0,.box [.int .i64 ((ds.getD i Dc.zero).kind),.str (ds.getD i Dc.zero).name,.str (ds.getD i Dc.zero).sum.name,.imm ((ds.getD i Dc.zero).sum.ctors.map Ct.v),.str (ds.getD i Dc.zero).tab.name,.imm ((ds.getD i Dc.zero).tab.cols.map Co.v),.imm ((ds.getD i Dc.zero).tab.key.map aa.str),.imm ((ds.getD i Dc.zero).tab.refs.map Rf.v),.int .i64 ((ds.getD i Dc.zero).tab.chk.kind),.str (ds.getD i Dc.zero).tab.chk.name,.int .i64 ((ds.getD i Dc.zero).tab.chk.n),.str (ds.getD i Dc.zero).tab.chk.s,.imm ((ds.getD i Dc.zero).tab.chk.names.map aa.str),.imm ((ds.getD i Dc.zero).tab.chk.binds.map aa.str),.imm ((ds.getD i Dc.zero).tab.chk.kids.map Ex.enc),.int .i64 ((ds.getD i Dc.zero).tab.chk.pos),.int .i64 ((ds.getD i Dc.zero).tab.chk.fin),.imm [],.bool false,.int .i64 0,.str [],.int .i64 0,.imm [],.imm [],.int .i64 0,.str [],.int .i64 0,.str [],.imm [],.imm [],.imm [],.int .i64 0,.int .i64 0,.imm [],nI (((10 * i)+6)),nI (10 * i),nI (((10 * i)+9))]] ?_ ?_
 refine az ?_ ?_
 refine b6 cxM kq ap (aU ?_)
 refine qu 9 ?_ ?_
 refine qD (cw (o:=2) (len:=((mdS ds l i).2.length)) (l:=(mdS ds l i).2) (xs:=[(Dc.mk ((ds.getD i Dc.zero).kind) ((ds.getD i Dc.zero).name) ((ds.getD i Dc.zero).sum) ((ds.getD i Dc.zero).tab) ((((10 * i)+6):Nat):Int) (((10 * i):Nat):Int) ((((10 * i)+9):Nat):Int))]) (enc:=Dc.v) (sz:=37) (fr:=0) (x:=(.full [.agg [.int .i64 ((ds.getD i Dc.zero).kind),.str (ds.getD i Dc.zero).name,.str (ds.getD i Dc.zero).sum.name,.imm ((ds.getD i Dc.zero).sum.ctors.map Ct.v),.str (ds.getD i Dc.zero).tab.name,.imm ((ds.getD i Dc.zero).tab.cols.map Co.v),.imm ((ds.getD i Dc.zero).tab.key.map aa.str),.imm ((ds.getD i Dc.zero).tab.refs.map Rf.v),.int .i64 ((ds.getD i Dc.zero).tab.chk.kind),.str (ds.getD i Dc.zero).tab.chk.name,.int .i64 ((ds.getD i Dc.zero).tab.chk.n),.str (ds.getD i Dc.zero).tab.chk.s,.imm ((ds.getD i Dc.zero).tab.chk.names.map aa.str),.imm ((ds.getD i Dc.zero).tab.chk.binds.map aa.str),.imm ((ds.getD i Dc.zero).tab.chk.kids.map Ex.enc),.int .i64 ((ds.getD i Dc.zero).tab.chk.pos),.int .i64 ((ds.getD i Dc.zero).tab.chk.fin),.imm [],.bool false,.int .i64 0,.str [],.int .i64 0,.imm [],.imm [],.int .i64 0,.str [],.int .i64 0,.str [],.imm [],.imm [],.imm [],.int .i64 0,.int .i64 0,.imm [],.int .i64 ((((10 * i)+6):Nat):Int),.int .i64 (((10 * i):Nat):Int),.int .i64 ((((10 * i)+9):Nat):Int)]])) kq dG iV dG rfl kq rfl rfl kq ⟨by decide,by kernel_rfl⟩ (fun _=>rfl) pY pY) ?_ ?_ ?_ ?_
 refine qu 3 ?_ ?_
 refine bG kq ⟨kq,?_⟩
 refine ab ?_
 refine qZ [(0,.imm (ds.map Dc.v)),(1,.imm (l.map (aa.int .i64))),(5,.own 0 0 2),(6,nI i),(7,.ptr 3 0)] [.arr 2 [.agg [.str [97,112,112],.own 1 0 (mdS ds l i).1.length],.agg [.str [98,97,115,101],.own 2 0 ((mdS ds l i).2++[(Dc.mk ((ds.getD i Dc.zero).kind) ((ds.getD i Dc.zero).name) ((ds.getD i Dc.zero).sum) ((ds.getD i Dc.zero).tab) ((((10 * i)+6):Nat):Int) (((10 * i):Nat):Int) ((((10 * i)+9):Nat):Int))]).length]] 0,.arr 37 ((mdS ds l i).1.map Dc.v) 0,.arr 37 (((mdS ds l i).2++[(Dc.mk ((ds.getD i Dc.zero).kind) ((ds.getD i Dc.zero).name) ((ds.getD i Dc.zero).sum) ((ds.getD i Dc.zero).tab) ((((10 * i)+6):Nat):Int) (((10 * i):Nat):Int) ((((10 * i)+9):Nat):Int))]).map Dc.v) 0,.box [.int .i64 ((ds.getD i Dc.zero).kind),.str (ds.getD i Dc.zero).name,.str (ds.getD i Dc.zero).sum.name,.imm ((ds.getD i Dc.zero).sum.ctors.map Ct.v),.str (ds.getD i Dc.zero).tab.name,.imm ((ds.getD i Dc.zero).tab.cols.map Co.v),.imm ((ds.getD i Dc.zero).tab.key.map aa.str),.imm ((ds.getD i Dc.zero).tab.refs.map Rf.v),.int .i64 ((ds.getD i Dc.zero).tab.chk.kind),.str (ds.getD i Dc.zero).tab.chk.name,.int .i64 ((ds.getD i Dc.zero).tab.chk.n),.str (ds.getD i Dc.zero).tab.chk.s,.imm ((ds.getD i Dc.zero).tab.chk.names.map aa.str),.imm ((ds.getD i Dc.zero).tab.chk.binds.map aa.str),.imm ((ds.getD i Dc.zero).tab.chk.kids.map Ex.enc),.int .i64 ((ds.getD i Dc.zero).tab.chk.pos),.int .i64 ((ds.getD i Dc.zero).tab.chk.fin),.imm [],.bool false,.int .i64 0,.str [],.int .i64 0,.imm [],.imm [],.int .i64 0,.str [],.int .i64 0,.str [],.imm [],.imm [],.imm [],.int .i64 0,.int .i64 0,.imm [],nI (((10 * i)+6)),nI (10 * i),nI (((10 * i)+9))]] ?_ ?_
 refine qV 2 ?_ ?_
 refine qy (aI (a:=((i:Nat):Int)) (b:=8) kq oq oq) ?_ ?_ ?_
 refine bj (args:=[.imm (l.map (aa.int .i64)),.int .i64 (((i+8):Nat):Int),.int .i64 9]) kq kq kq kq (d8 l (i+8) 9 hl dq) uR uR Cr ?_
 refine qR 1 [(0,.imm (ds.map Dc.v)),(1,.imm (l.map (aa.int .i64))),(5,.own 0 0 2),(6,nI i),(7,.ptr 3 0),(53,.bool ((aJ l (i+8) 9)==0))] [.arr 2 [.agg [.str [97,112,112],.own 1 0 (mdS ds l i).1.length],.agg [.str [98,97,115,101],.own 2 0 ((mdS ds l i).2++[(Dc.mk ((ds.getD i Dc.zero).kind) ((ds.getD i Dc.zero).name) ((ds.getD i Dc.zero).sum) ((ds.getD i Dc.zero).tab) ((((10 * i)+6):Nat):Int) (((10 * i):Nat):Int) ((((10 * i)+9):Nat):Int))]).length]] 0,.arr 37 ((mdS ds l i).1.map Dc.v) 0,.arr 37 (((mdS ds l i).2++[(Dc.mk ((ds.getD i Dc.zero).kind) ((ds.getD i Dc.zero).name) ((ds.getD i Dc.zero).sum) ((ds.getD i Dc.zero).tab) ((((10 * i)+6):Nat):Int) (((10 * i):Nat):Int) ((((10 * i)+9):Nat):Int))]).map Dc.v) 0,.box [.int .i64 ((ds.getD i Dc.zero).kind),.str (ds.getD i Dc.zero).name,.str (ds.getD i Dc.zero).sum.name,.imm ((ds.getD i Dc.zero).sum.ctors.map Ct.v),.str (ds.getD i Dc.zero).tab.name,.imm ((ds.getD i Dc.zero).tab.cols.map Co.v),.imm ((ds.getD i Dc.zero).tab.key.map aa.str),.imm ((ds.getD i Dc.zero).tab.refs.map Rf.v),.int .i64 ((ds.getD i Dc.zero).tab.chk.kind),.str (ds.getD i Dc.zero).tab.chk.name,.int .i64 ((ds.getD i Dc.zero).tab.chk.n),.str (ds.getD i Dc.zero).tab.chk.s,.imm ((ds.getD i Dc.zero).tab.chk.names.map aa.str),.imm ((ds.getD i Dc.zero).tab.chk.binds.map aa.str),.imm ((ds.getD i Dc.zero).tab.chk.kids.map Ex.enc),.int .i64 ((ds.getD i Dc.zero).tab.chk.pos),.int .i64 ((ds.getD i Dc.zero).tab.chk.fin),.imm [],.bool false,.int .i64 0,.str [],.int .i64 0,.imm [],.imm [],.int .i64 0,.str [],.int .i64 0,.str [],.imm [],.imm [],.imm [],.int .i64 0,.int .i64 0,.imm [],nI (((10 * i)+6)),nI (10 * i),nI (((10 * i)+9))]] ?_ ?_
 by_cases hb4:(aJ l (i+8) 9)=0
 refine qt (beq_iff_eq.2 hb4) ?_ ?_
 refine b6 cxM kq (dL ap) (aU ?_)
 refine qu 7 ?_ ?_
 refine qD (cw (o:=2) (len:=(((mdS ds l i).2++[(Dc.mk ((ds.getD i Dc.zero).kind) ((ds.getD i Dc.zero).name) ((ds.getD i Dc.zero).sum) ((ds.getD i Dc.zero).tab) ((((10 * i)+6):Nat):Int) (((10 * i):Nat):Int) ((((10 * i)+9):Nat):Int))]).length)) (l:=((mdS ds l i).2++[(Dc.mk ((ds.getD i Dc.zero).kind) ((ds.getD i Dc.zero).name) ((ds.getD i Dc.zero).sum) ((ds.getD i Dc.zero).tab) ((((10 * i)+6):Nat):Int) (((10 * i):Nat):Int) ((((10 * i)+9):Nat):Int))])) (xs:=[(Dc.mk ((ds.getD i Dc.zero).kind) ((ds.getD i Dc.zero).name) ((ds.getD i Dc.zero).sum) ((ds.getD i Dc.zero).tab) ((((10 * i)+6):Nat):Int) (((10 * i):Nat):Int) ((((10 * i)+9):Nat):Int))]) (enc:=Dc.v) (sz:=37) (fr:=0) (x:=(.full [.agg [.int .i64 ((ds.getD i Dc.zero).kind),.str (ds.getD i Dc.zero).name,.str (ds.getD i Dc.zero).sum.name,.imm ((ds.getD i Dc.zero).sum.ctors.map Ct.v),.str (ds.getD i Dc.zero).tab.name,.imm ((ds.getD i Dc.zero).tab.cols.map Co.v),.imm ((ds.getD i Dc.zero).tab.key.map aa.str),.imm ((ds.getD i Dc.zero).tab.refs.map Rf.v),.int .i64 ((ds.getD i Dc.zero).tab.chk.kind),.str (ds.getD i Dc.zero).tab.chk.name,.int .i64 ((ds.getD i Dc.zero).tab.chk.n),.str (ds.getD i Dc.zero).tab.chk.s,.imm ((ds.getD i Dc.zero).tab.chk.names.map aa.str),.imm ((ds.getD i Dc.zero).tab.chk.binds.map aa.str),.imm ((ds.getD i Dc.zero).tab.chk.kids.map Ex.enc),.int .i64 ((ds.getD i Dc.zero).tab.chk.pos),.int .i64 ((ds.getD i Dc.zero).tab.chk.fin),.imm [],.bool false,.int .i64 0,.str [],.int .i64 0,.imm [],.imm [],.int .i64 0,.str [],.int .i64 0,.str [],.imm [],.imm [],.imm [],.int .i64 0,.int .i64 0,.imm [],.int .i64 ((((10 * i)+6):Nat):Int),.int .i64 (((10 * i):Nat):Int),.int .i64 ((((10 * i)+9):Nat):Int)]])) kq dG iV dG rfl kq rfl rfl kq ⟨by decide,by kernel_rfl⟩ (fun _=>rfl) pY pY) ?_ ?_ ?_ ?_
 refine qu 3 ?_ ?_
 refine bG kq ⟨kq,?_⟩
 refine ah ?_
 refine ab ?_
 refine qZ [(0,.imm (ds.map Dc.v)),(1,.imm (l.map (aa.int .i64))),(5,.own 0 0 2),(6,nI i)] [.arr 2 [.agg [.str [97,112,112],.own 1 0 (mdS ds l i).1.length],.agg [.str [98,97,115,101],.own 2 0 (((mdS ds l i).2++[(Dc.mk ((ds.getD i Dc.zero).kind) ((ds.getD i Dc.zero).name) ((ds.getD i Dc.zero).sum) ((ds.getD i Dc.zero).tab) ((((10 * i)+6):Nat):Int) (((10 * i):Nat):Int) ((((10 * i)+9):Nat):Int))])++[(Dc.mk ((ds.getD i Dc.zero).kind) ((ds.getD i Dc.zero).name) ((ds.getD i Dc.zero).sum) ((ds.getD i Dc.zero).tab) ((((10 * i)+6):Nat):Int) (((10 * i):Nat):Int) ((((10 * i)+9):Nat):Int))]).length]] 0,.arr 37 ((mdS ds l i).1.map Dc.v) 0,.arr 37 ((((mdS ds l i).2++[(Dc.mk ((ds.getD i Dc.zero).kind) ((ds.getD i Dc.zero).name) ((ds.getD i Dc.zero).sum) ((ds.getD i Dc.zero).tab) ((((10 * i)+6):Nat):Int) (((10 * i):Nat):Int) ((((10 * i)+9):Nat):Int))])++[(Dc.mk ((ds.getD i Dc.zero).kind) ((ds.getD i Dc.zero).name) ((ds.getD i Dc.zero).sum) ((ds.getD i Dc.zero).tab) ((((10 * i)+6):Nat):Int) (((10 * i):Nat):Int) ((((10 * i)+9):Nat):Int))]).map Dc.v) 0,.box [.int .i64 ((ds.getD i Dc.zero).kind),.str (ds.getD i Dc.zero).name,.str (ds.getD i Dc.zero).sum.name,.imm ((ds.getD i Dc.zero).sum.ctors.map Ct.v),.str (ds.getD i Dc.zero).tab.name,.imm ((ds.getD i Dc.zero).tab.cols.map Co.v),.imm ((ds.getD i Dc.zero).tab.key.map aa.str),.imm ((ds.getD i Dc.zero).tab.refs.map Rf.v),.int .i64 ((ds.getD i Dc.zero).tab.chk.kind),.str (ds.getD i Dc.zero).tab.chk.name,.int .i64 ((ds.getD i Dc.zero).tab.chk.n),.str (ds.getD i Dc.zero).tab.chk.s,.imm ((ds.getD i Dc.zero).tab.chk.names.map aa.str),.imm ((ds.getD i Dc.zero).tab.chk.binds.map aa.str),.imm ((ds.getD i Dc.zero).tab.chk.kids.map Ex.enc),.int .i64 ((ds.getD i Dc.zero).tab.chk.pos),.int .i64 ((ds.getD i Dc.zero).tab.chk.fin),.imm [],.bool false,.int .i64 0,.str [],.int .i64 0,.imm [],.imm [],.int .i64 0,.str [],.int .i64 0,.str [],.imm [],.imm [],.imm [],.int .i64 0,.int .i64 0,.imm [],nI (((10 * i)+6)),nI (10 * i),nI (((10 * i)+9))]] ?_ ?_
 refine qo ?_ ?_
 refine qr 1 ?_ ?_
 refine qy (aI (a:=((i:Nat):Int)) (b:=1) kq oq oq) ?_ ?_ ?_
 refine qr 1 ?_ ?_
 refine qe ?_ ?_
 refine ab ⟨i+1,?_,?_,⟨⟨kq,kq,kq,kq,trivial⟩,by simp [aG,aa.bel],by simp,(Eq.trans (b:=[.arr 2 [.agg [.str [97,112,112],.own 1 0 (mdS ds l i).1.length],.agg [.str [98,97,115,101],.own 2 0 (((mdS ds l i).2++[(Dc.mk ((ds.getD i Dc.zero).kind) ((ds.getD i Dc.zero).name) ((ds.getD i Dc.zero).sum) ((ds.getD i Dc.zero).tab) ((((10 * i)+6):Nat):Int) (((10 * i):Nat):Int) ((((10 * i)+9):Nat):Int))])++[(Dc.mk ((ds.getD i Dc.zero).kind) ((ds.getD i Dc.zero).name) ((ds.getD i Dc.zero).sum) ((ds.getD i Dc.zero).tab) ((((10 * i)+6):Nat):Int) (((10 * i):Nat):Int) ((((10 * i)+9):Nat):Int))]).length]] 0,.arr 37 ((mdS ds l i).1.map Dc.v) 0,.arr 37 ((((mdS ds l i).2++[(Dc.mk ((ds.getD i Dc.zero).kind) ((ds.getD i Dc.zero).name) ((ds.getD i Dc.zero).sum) ((ds.getD i Dc.zero).tab) ((((10 * i)+6):Nat):Int) (((10 * i):Nat):Int) ((((10 * i)+9):Nat):Int))])++[(Dc.mk ((ds.getD i Dc.zero).kind) ((ds.getD i Dc.zero).name) ((ds.getD i Dc.zero).sum) ((ds.getD i Dc.zero).tab) ((((10 * i)+6):Nat):Int) (((10 * i):Nat):Int) ((((10 * i)+9):Nat):Int))]).map Dc.v) 0]) kq (by rw [Cf aq aq] <;> (show _=_;kernel_rfl))),by simp [ai.belO,av,aB,aa.bel,Ty.v,Ex.v,Ct.v,Co.v,Rf.v,Sm.v,Tb.v_cs,Sc.v,Md.v,Pb.v,Ls.v,-List.map_take,-List.map_drop,-List.map_append]⟩⟩
 · omega
 · omega
 iterate 13 kernel_rfl
 refine qf (beq_eq_false_iff_ne.2 hb4) ?_ ?_
 refine qk ?_ ?_
 refine ah ?_
 refine ab ?_
 refine qz [(0,.imm (ds.map Dc.v)),(1,.imm (l.map (aa.int .i64))),(5,.own 0 0 2),(6,nI i)] ?_ ?_
 refine qo ?_ ?_
 refine qr 1 ?_ ?_
 refine qy (aI (a:=((i:Nat):Int)) (b:=1) kq oq oq) ?_ ?_ ?_
 refine qr 1 ?_ ?_
 refine qe ?_ ?_
 refine ab ⟨i+1,?_,?_,⟨⟨kq,kq,kq,kq,trivial⟩,by simp [aG,aa.bel],by simp,(Eq.trans (b:=[.arr 2 [.agg [.str [97,112,112],.own 1 0 (mdS ds l i).1.length],.agg [.str [98,97,115,101],.own 2 0 ((mdS ds l i).2++[(Dc.mk ((ds.getD i Dc.zero).kind) ((ds.getD i Dc.zero).name) ((ds.getD i Dc.zero).sum) ((ds.getD i Dc.zero).tab) ((((10 * i)+6):Nat):Int) (((10 * i):Nat):Int) ((((10 * i)+9):Nat):Int))]).length]] 0,.arr 37 ((mdS ds l i).1.map Dc.v) 0,.arr 37 (((mdS ds l i).2++[(Dc.mk ((ds.getD i Dc.zero).kind) ((ds.getD i Dc.zero).name) ((ds.getD i Dc.zero).sum) ((ds.getD i Dc.zero).tab) ((((10 * i)+6):Nat):Int) (((10 * i):Nat):Int) ((((10 * i)+9):Nat):Int))]).map Dc.v) 0]) kq (by rw [BE aq aq] <;> (show _=_;kernel_rfl))),by simp [ai.belO,av,aB,aa.bel,Ty.v,Ex.v,Ct.v,Co.v,Rf.v,Sm.v,Tb.v_cs,Sc.v,Md.v,Pb.v,Ls.v,-List.map_take,-List.map_drop,-List.map_append]⟩⟩
 · omega
 · omega
 iterate 50 kernel_rfl
 refine qf (decide_eq_false hb1) ?_ ?_
 refine a6 0 kq kq ?_
 refine af ?_
 refine af ?_
 refine aE ?_
 refine ab ?_
 refine qz [(5,.own 0 0 2)] ?_ ?_
 refine yB 0 0 1 1 (sz:=2) (fr:=0) (es:=[.agg [.str [97,112,112],.own 1 0 (mdS ds l i).1.length],.agg [.str [98,97,115,101],.own 2 0 (mdS ds l i).2.length]]) (cs:=[.str [97,112,112],.own 1 0 (mdS ds l i).1.length]) (es2:=((mdS ds l i).1.map Dc.v)) (off:=0) (len:=((mdS ds l i).1.length)) (sz2:=37) (fr2:=0) [.agg [.str [97,112,112],.imm ((mdS ds l i).1.map Dc.v)],.agg [.str [98,97,115,101],.own 2 0 (mdS ds l i).2.length]] ((mdS ds l i).1.map Dc.v) dq kq kq kq kq zq kq kq ?_
 refine yB 0 1 1 2 (sz:=2) (fr:=0) (es:=[.agg [.str [97,112,112],.imm ((mdS ds l i).1.map Dc.v)],.agg [.str [98,97,115,101],.own 2 0 (mdS ds l i).2.length]]) (cs:=[.str [98,97,115,101],.own 2 0 (mdS ds l i).2.length]) (es2:=((mdS ds l i).2.map Dc.v)) (off:=0) (len:=((mdS ds l i).2.length)) (sz2:=37) (fr2:=0) [.agg [.str [97,112,112],.imm ((mdS ds l i).1.map Dc.v)],.agg [.str [98,97,115,101],.imm ((mdS ds l i).2.map Dc.v)]] ((mdS ds l i).2.map Dc.v) dq kq kq kq kq zq kq kq ?_
 refine pA 5 0 (es:=[.agg [.str [97,112,112],.imm ((mdS ds l i).1.map Dc.v)],.agg [.str [98,97,115,101],.imm ((mdS ds l i).2.map Dc.v)]]) (off:=0) (len:=2) (sz:=2) (fr:=0) [.agg [.str [97,112,112],.imm ((mdS ds l i).1.map Dc.v)],.agg [.str [98,97,115,101],.imm ((mdS ds l i).2.map Dc.v)]] kq kq zq kq ?_
 refine qZ [(5,.imm [.agg [.str [97,112,112],.imm ((mdS ds l i).1.map Dc.v)],.agg [.str [98,97,115,101],.imm ((mdS ds l i).2.map Dc.v)]])] [.arr 2 [.agg [.str [97,112,112],.imm ((mdS ds l i).1.map Dc.v)],.agg [.str [98,97,115,101],.imm ((mdS ds l i).2.map Dc.v)]] 2,.arr 37 ((mdS ds l i).1.map Dc.v) ((mdS ds l i).1.map Dc.v).length,.arr 37 ((mdS ds l i).2.map Dc.v) ((mdS ds l i).2.map Dc.v).length] ?_ ?_
 refine qU 2 [(4,.imm [.agg [.str [97,112,112],.imm ((mdS ds l i).1.map Dc.v)],.agg [.str [98,97,115,101],.imm ((mdS ds l i).2.map Dc.v)]])] ?_ ?_
 refine cK kq ?_
 refine gH (l:=[.imm [.agg [.str [97,112,112],.imm ((mdS ds l i).1.map Dc.v)],.agg [.str [98,97,115,101],.imm ((mdS ds l i).2.map Dc.v)]]]) (.inr rfl) kq ?_
 · have e_:i=ds.length:=by omega
   subst e_;simp [a8,aa.frz,aZ,nS,Md.v]
 iterate 18 kernel_rfl
noncomputable def c10:Code:=aT Tryz.f10
theorem rn (ps:List Pb) (hn:ps.length<1000000) (hw:∀ p∈ps,p.names.length<1000000):ao cx 10 [.imm (ps.map Pb.v),.imm (ps.map Pb.v)] (.bool true):=by
 refine aC (cx:=cx) 83 0 [(ResultVar.tmp 4)] Tryz.func10 rfl rfl rfl rfl rfl zq ?_
 show wpA cx 83 0 (at_ c10 []) _ _ _
 refine qZ [(0,.imm (ps.map Pb.v)),(1,.imm (ps.map Pb.v))] [] ?_ ?_
 refine qU 1 [(0,.imm (ps.map Pb.v)),(1,.imm (ps.map Pb.v))] ?_ ?_
 refine az ?_ ?_
 refine qV 1 ?_ ?_
 refine qy (aw (l:=ps) (enc:=Pb.v) kq gY) ?_ ?_ ?_
 refine qr 1 ?_ ?_
 refine qy (aw (l:=ps) (enc:=Pb.v) kq gY) ?_ ?_ ?_
 refine qR 1 [(0,.imm (ps.map Pb.v)),(1,.imm (ps.map Pb.v)),(11,.bool (((ps.length:Nat):Int) != ((ps.length:Nat):Int)))] [] ?_ ?_
 by_cases hb1:((ps.length:Nat):Int)=((ps.length:Nat):Int)
 refine qf (x:=(((ps.length:Nat):Int) != ((ps.length:Nat):Int))) (bne_eq_false_iff_eq.2 hb1) ?_ ?_
 refine qK ?_ ?_
 refine qz [(0,.imm (ps.map Pb.v)),(1,.imm (ps.map Pb.v))] ?_ ?_
 refine az ?_ ?_
 refine qU 1 [(0,.imm (ps.map Pb.v)),(1,.imm (ps.map Pb.v)),(5,.int .i64 0)] ?_ ?_
 refine qB 0 ?_ ?_ ?_
 refine bn (σ:=Nat) (fun k=>[(0,.imm (ps.map Pb.v)),(1,.imm (ps.map Pb.v)),(5,.int .i64 ((k:Nat):Int))]) (fun k=>[]) (fun k=>k≤ps.length) (fun k=>ps.length - k) 0 kq (by exact Nat.zero_le _) ⟨⟨kq,kq,kq,trivial⟩,by simp [aG,aa.bel],by simp,kq,by simp [ai.belO,av,aB,aa.bel,Ty.v,Ex.v,Ct.v,Co.v,Rf.v,Sm.v,Tb.v_cs,Sc.v,Md.v,Pb.v,Ls.v,-List.map_take,-List.map_drop,-List.map_append]⟩ ?_
 rintro k hk
 refine az ?_ ?_
 refine qV 2 ?_ ?_
 refine qy (aw (l:=ps) (enc:=Pb.v) kq gY) ?_ ?_ ?_
 refine qR 1 [(0,.imm (ps.map Pb.v)),(1,.imm (ps.map Pb.v)),(5,nI k),(15,.bool (decide (((k:Nat):Int)<((ps.length:Nat):Int))))] [] ?_ ?_
 by_cases hb2:((k:Nat):Int)<((ps.length:Nat):Int)
 refine qt (decide_eq_true hb2) ?_ ?_
 refine qK ?_ ?_
 refine qz [(0,.imm (ps.map Pb.v)),(1,.imm (ps.map Pb.v)),(5,nI k)] ?_ ?_
 refine az ?_ ?_
 refine qB 1 ?_ ?_ ?_
 refine az ?_ ?_
 refine b6 cxM kq ap (aU ?_)
 refine qu 2 ?_ ?_
 refine qd ((aA (k:=.i64) (l:=ps) (enc:=Pb.v) (i:=((k:Nat):Int)) Pb.zero kq gY kO (fun _=>rfl) oq oq).trans (congrArg (fun cs=>some (aa.pimm cs 0,_)) (dn (ps.getD k Pb.zero)))) ?_ ?_ ?_ ?_
 refine qu 4 ?_ ?_
 refine qd ((aA (k:=.i64) (l:=ps) (enc:=Pb.v) (i:=((k:Nat):Int)) Pb.zero kq gY kO (fun _=>rfl) oq oq).trans (congrArg (fun cs=>some (aa.pimm cs 0,_)) (dn (ps.getD k Pb.zero)))) ?_ ?_ ?_ ?_
 refine qu 2 ?_ ?_
 refine cc (args:=[.imm ((ps.getD k Pb.zero).names.map aa.str),.imm ((ps.getD k Pb.zero).names.map aa.str)]) kq kq kq kq kq (cX ((ps.getD k Pb.zero).names) ((ps.getD k Pb.zero).names) (Nat.lt_trans (hw _ (c5 _ _ _ oq)) dq)) (by intro _;simp [Ty.v,Ex.v,Ct.v,Co.v,Rf.v,Sm.v,Tb.v_cs,Sc.v,Md.v,Pb.v,Ls.v,-List.map_take,-List.map_drop,-List.map_append]) uR uR ?_
 refine qu 1 ?_ ?_
 refine bG kq ⟨kq,?_⟩
 refine ab ?_
 refine qZ [(0,.imm (ps.map Pb.v)),(1,.imm (ps.map Pb.v)),(5,nI k),(6,.bool (((ps.getD k Pb.zero).names)==((ps.getD k Pb.zero).names)))] [] ?_ ?_
 refine az ?_ ?_
 refine b6 cxM kq ap (aU ?_)
 refine qu 3 ?_ ?_
 by_cases hb3:(((ps.getD k Pb.zero).names)==((ps.getD k Pb.zero).names))=true
 refine bQ 30 (.bool (!(((ps.getD k Pb.zero).names)==((ps.getD k Pb.zero).names)))) (.bool false) (bO ap) kq (congrArg aa.bool (congrArg not (hb3))) ?_
 refine bQ 31 (.bool (!(((ps.getD k Pb.zero).names)==((ps.getD k Pb.zero).names)))) (.bool false) (bO ap) kq (congrArg aa.bool (congrArg not (hb3))) ?_
 refine qu 2 ?_ ?_
 refine qd ((aA (k:=.i64) (l:=ps) (enc:=Pb.v) (i:=((k:Nat):Int)) Pb.zero kq gY kO (fun _=>rfl) oq oq).trans (congrArg (fun cs=>some (aa.pimm cs 0,_)) (dn (ps.getD k Pb.zero)))) ?_ ?_ ?_ ?_
 refine qu 4 ?_ ?_
 refine qd ((aA (k:=.i64) (l:=ps) (enc:=Pb.v) (i:=((k:Nat):Int)) Pb.zero kq gY kO (fun _=>rfl) oq oq).trans (congrArg (fun cs=>some (aa.pimm cs 0,_)) (dn (ps.getD k Pb.zero)))) ?_ ?_ ?_ ?_
 refine qu 5 ?_ ?_
 by_cases hb4:(ps.getD k Pb.zero).doc=(ps.getD k Pb.zero).doc
 refine bQ 42 (.bool (!((ps.getD k Pb.zero).doc==(ps.getD k Pb.zero).doc))) (.bool false) (bO ap) kq (congrArg aa.bool (congrArg not (beq_iff_eq.2 hb4))) ?_
 refine bQ 43 (.bool (!((ps.getD k Pb.zero).doc==(ps.getD k Pb.zero).doc))) (.bool false) (bO ap) kq (congrArg aa.bool (congrArg not (beq_iff_eq.2 hb4))) ?_
 refine bQ 44 (.bool (!((ps.getD k Pb.zero).doc==(ps.getD k Pb.zero).doc))) (.bool false) (bO ap) kq (congrArg aa.bool (congrArg not (beq_iff_eq.2 hb4))) ?_
 refine qu 2 ?_ ?_
 refine qd ((aA (k:=.i64) (l:=ps) (enc:=Pb.v) (i:=((k:Nat):Int)) Pb.zero kq gY kO (fun _=>rfl) oq oq).trans (congrArg (fun cs=>some (aa.pimm cs 0,_)) (dn (ps.getD k Pb.zero)))) ?_ ?_ ?_ ?_
 refine qu 4 ?_ ?_
 refine qd ((aA (k:=.i64) (l:=ps) (enc:=Pb.v) (i:=((k:Nat):Int)) Pb.zero kq gY kO (fun _=>rfl) oq oq).trans (congrArg (fun cs=>some (aa.pimm cs 0,_)) (dn (ps.getD k Pb.zero)))) ?_ ?_ ?_ ?_
 refine qu 5 ?_ ?_
 by_cases hb5:((ps.getD k Pb.zero).pos)=((ps.getD k Pb.zero).pos)
 refine bQ 55 (.bool (((ps.getD k Pb.zero).pos) != ((ps.getD k Pb.zero).pos))) (.bool false) (bO ap) kq (congrArg aa.bool (bne_eq_false_iff_eq.2 hb5)) ?_
 refine bQ 56 (.bool (((ps.getD k Pb.zero).pos) != ((ps.getD k Pb.zero).pos))) (.bool false) (bO ap) kq (congrArg aa.bool (bne_eq_false_iff_eq.2 hb5)) ?_
 refine bQ 57 (.bool (((ps.getD k Pb.zero).pos) != ((ps.getD k Pb.zero).pos))) (.bool false) (bO ap) kq (congrArg aa.bool (bne_eq_false_iff_eq.2 hb5)) ?_
 refine qu 2 ?_ ?_
 refine qd ((aA (k:=.i64) (l:=ps) (enc:=Pb.v) (i:=((k:Nat):Int)) Pb.zero kq gY kO (fun _=>rfl) oq oq).trans (congrArg (fun cs=>some (aa.pimm cs 0,_)) (dn (ps.getD k Pb.zero)))) ?_ ?_ ?_ ?_
 refine qu 4 ?_ ?_
 refine qd ((aA (k:=.i64) (l:=ps) (enc:=Pb.v) (i:=((k:Nat):Int)) Pb.zero kq gY kO (fun _=>rfl) oq oq).trans (congrArg (fun cs=>some (aa.pimm cs 0,_)) (dn (ps.getD k Pb.zero)))) ?_ ?_ ?_ ?_
 refine qu 5 ?_ ?_
 by_cases hb6:((ps.getD k Pb.zero).fin)=((ps.getD k Pb.zero).fin)
 refine bQ 68 (.bool (((ps.getD k Pb.zero).fin) != ((ps.getD k Pb.zero).fin))) (.bool false) (bO ap) kq (congrArg aa.bool (bne_eq_false_iff_eq.2 hb6)) ?_
 refine bQ 69 (.bool (((ps.getD k Pb.zero).fin) != ((ps.getD k Pb.zero).fin))) (.bool false) (bO ap) kq (congrArg aa.bool (bne_eq_false_iff_eq.2 hb6)) ?_
 refine bQ 70 (.bool (((ps.getD k Pb.zero).fin) != ((ps.getD k Pb.zero).fin))) (.bool false) (bO ap) kq (congrArg aa.bool (bne_eq_false_iff_eq.2 hb6)) ?_
 refine qu 2 ?_ ?_
 refine qd ((aA (k:=.i64) (l:=ps) (enc:=Pb.v) (i:=((k:Nat):Int)) Pb.zero kq gY kO (fun _=>rfl) oq oq).trans (congrArg (fun cs=>some (aa.pimm cs 0,_)) (dn (ps.getD k Pb.zero)))) ?_ ?_ ?_ ?_
 refine qu 4 ?_ ?_
 refine qd ((aA (k:=.i64) (l:=ps) (enc:=Pb.v) (i:=((k:Nat):Int)) Pb.zero kq gY kO (fun _=>rfl) oq oq).trans (congrArg (fun cs=>some (aa.pimm cs 0,_)) (dn (ps.getD k Pb.zero)))) ?_ ?_ ?_ ?_
 refine qu 4 ?_ ?_
 refine bG kq ⟨kq,?_⟩
 refine ab ?_
 refine qZ [(0,.imm (ps.map Pb.v)),(1,.imm (ps.map Pb.v)),(5,nI k),(32,.imm (ps.map Pb.v)),(33,nI k),(34,.pimm [.str (ps.getD k Pb.zero).doc,.int .i64 ((ps.getD k Pb.zero).pos),.int .i64 ((ps.getD k Pb.zero).fin),.int .i64 ((ps.getD k Pb.zero).code),.imm ((ps.getD k Pb.zero).names.map aa.str)] 0),(35,.pimm [.str (ps.getD k Pb.zero).doc,.int .i64 ((ps.getD k Pb.zero).pos),.int .i64 ((ps.getD k Pb.zero).fin),.int .i64 ((ps.getD k Pb.zero).code),.imm ((ps.getD k Pb.zero).names.map aa.str)] 0),(36,.str (ps.getD k Pb.zero).doc),(37,.imm (ps.map Pb.v)),(38,nI k),(39,.pimm [.str (ps.getD k Pb.zero).doc,.int .i64 ((ps.getD k Pb.zero).pos),.int .i64 ((ps.getD k Pb.zero).fin),.int .i64 ((ps.getD k Pb.zero).code),.imm ((ps.getD k Pb.zero).names.map aa.str)] 0),(40,.pimm [.str (ps.getD k Pb.zero).doc,.int .i64 ((ps.getD k Pb.zero).pos),.int .i64 ((ps.getD k Pb.zero).fin),.int .i64 ((ps.getD k Pb.zero).code),.imm ((ps.getD k Pb.zero).names.map aa.str)] 0),(41,.str (ps.getD k Pb.zero).doc),(42,.bool false),(45,.imm (ps.map Pb.v)),(46,nI k),(47,.pimm [.str (ps.getD k Pb.zero).doc,.int .i64 ((ps.getD k Pb.zero).pos),.int .i64 ((ps.getD k Pb.zero).fin),.int .i64 ((ps.getD k Pb.zero).code),.imm ((ps.getD k Pb.zero).names.map aa.str)] 0),(48,.pimm [.str (ps.getD k Pb.zero).doc,.int .i64 ((ps.getD k Pb.zero).pos),.int .i64 ((ps.getD k Pb.zero).fin),.int .i64 ((ps.getD k Pb.zero).code),.imm ((ps.getD k Pb.zero).names.map aa.str)] 1),(49,.int .i64 ((ps.getD k Pb.zero).pos)),(50,.imm (ps.map Pb.v)),(51,nI k),(52,.pimm [.str (ps.getD k Pb.zero).doc,.int .i64 ((ps.getD k Pb.zero).pos),.int .i64 ((ps.getD k Pb.zero).fin),.int .i64 ((ps.getD k Pb.zero).code),.imm ((ps.getD k Pb.zero).names.map aa.str)] 0),(53,.pimm [.str (ps.getD k Pb.zero).doc,.int .i64 ((ps.getD k Pb.zero).pos),.int .i64 ((ps.getD k Pb.zero).fin),.int .i64 ((ps.getD k Pb.zero).code),.imm ((ps.getD k Pb.zero).names.map aa.str)] 1),(54,.int .i64 ((ps.getD k Pb.zero).pos)),(55,.bool false),(58,.imm (ps.map Pb.v)),(59,nI k),(60,.pimm [.str (ps.getD k Pb.zero).doc,.int .i64 ((ps.getD k Pb.zero).pos),.int .i64 ((ps.getD k Pb.zero).fin),.int .i64 ((ps.getD k Pb.zero).code),.imm ((ps.getD k Pb.zero).names.map aa.str)] 0),(61,.pimm [.str (ps.getD k Pb.zero).doc,.int .i64 ((ps.getD k Pb.zero).pos),.int .i64 ((ps.getD k Pb.zero).fin),.int .i64 ((ps.getD k Pb.zero).code),.imm ((ps.getD k Pb.zero).names.map aa.str)] 2),(62,.int .i64 ((ps.getD k Pb.zero).fin)),(63,.imm (ps.map Pb.v)),(64,nI k),(65,.pimm [.str (ps.getD k Pb.zero).doc,.int .i64 ((ps.getD k Pb.zero).pos),.int .i64 ((ps.getD k Pb.zero).fin),.int .i64 ((ps.getD k Pb.zero).code),.imm ((ps.getD k Pb.zero).names.map aa.str)] 0),(66,.pimm [.str (ps.getD k Pb.zero).doc,.int .i64 ((ps.getD k Pb.zero).pos),.int .i64 ((ps.getD k Pb.zero).fin),.int .i64 ((ps.getD k Pb.zero).code),.imm ((ps.getD k Pb.zero).names.map aa.str)] 2),(67,.int .i64 ((ps.getD k Pb.zero).fin)),(68,.bool false),(71,.imm (ps.map Pb.v)),(72,nI k),(73,.pimm [.str (ps.getD k Pb.zero).doc,.int .i64 ((ps.getD k Pb.zero).pos),.int .i64 ((ps.getD k Pb.zero).fin),.int .i64 ((ps.getD k Pb.zero).code),.imm ((ps.getD k Pb.zero).names.map aa.str)] 0),(74,.pimm [.str (ps.getD k Pb.zero).doc,.int .i64 ((ps.getD k Pb.zero).pos),.int .i64 ((ps.getD k Pb.zero).fin),.int .i64 ((ps.getD k Pb.zero).code),.imm ((ps.getD k Pb.zero).names.map aa.str)] 3),(75,.int .i64 ((ps.getD k Pb.zero).code)),(76,.imm (ps.map Pb.v)),(77,nI k),(78,.pimm [.str (ps.getD k Pb.zero).doc,.int .i64 ((ps.getD k Pb.zero).pos),.int .i64 ((ps.getD k Pb.zero).fin),.int .i64 ((ps.getD k Pb.zero).code),.imm ((ps.getD k Pb.zero).names.map aa.str)] 0),(79,.pimm [.str (ps.getD k Pb.zero).doc,.int .i64 ((ps.getD k Pb.zero).pos),.int .i64 ((ps.getD k Pb.zero).fin),.int .i64 ((ps.getD k Pb.zero).code),.imm ((ps.getD k Pb.zero).names.map aa.str)] 3),(80,.int .i64 ((ps.getD k Pb.zero).code)),(81,.bool (((ps.getD k Pb.zero).code) != ((ps.getD k Pb.zero).code))),(82,.bool (((ps.getD k Pb.zero).code) != ((ps.getD k Pb.zero).code)))] [] ?_ ?_
 by_cases hb7:((ps.getD k Pb.zero).code)=((ps.getD k Pb.zero).code)
 refine qf (x:=(((ps.getD k Pb.zero).code) != ((ps.getD k Pb.zero).code))) (bne_eq_false_iff_eq.2 hb7) ?_ ?_
 refine qk ?_ ?_
 refine ah ?_
 refine ab ?_
 refine qz [(0,.imm (ps.map Pb.v)),(1,.imm (ps.map Pb.v)),(5,nI k),(32,.imm (ps.map Pb.v)),(33,nI k),(34,.pimm [.str (ps.getD k Pb.zero).doc,.int .i64 ((ps.getD k Pb.zero).pos),.int .i64 ((ps.getD k Pb.zero).fin),.int .i64 ((ps.getD k Pb.zero).code),.imm ((ps.getD k Pb.zero).names.map aa.str)] 0),(35,.pimm [.str (ps.getD k Pb.zero).doc,.int .i64 ((ps.getD k Pb.zero).pos),.int .i64 ((ps.getD k Pb.zero).fin),.int .i64 ((ps.getD k Pb.zero).code),.imm ((ps.getD k Pb.zero).names.map aa.str)] 0),(36,.str (ps.getD k Pb.zero).doc),(37,.imm (ps.map Pb.v)),(38,nI k),(39,.pimm [.str (ps.getD k Pb.zero).doc,.int .i64 ((ps.getD k Pb.zero).pos),.int .i64 ((ps.getD k Pb.zero).fin),.int .i64 ((ps.getD k Pb.zero).code),.imm ((ps.getD k Pb.zero).names.map aa.str)] 0),(40,.pimm [.str (ps.getD k Pb.zero).doc,.int .i64 ((ps.getD k Pb.zero).pos),.int .i64 ((ps.getD k Pb.zero).fin),.int .i64 ((ps.getD k Pb.zero).code),.imm ((ps.getD k Pb.zero).names.map aa.str)] 0),(41,.str (ps.getD k Pb.zero).doc),(42,.bool false),(45,.imm (ps.map Pb.v)),(46,nI k),(47,.pimm [.str (ps.getD k Pb.zero).doc,.int .i64 ((ps.getD k Pb.zero).pos),.int .i64 ((ps.getD k Pb.zero).fin),.int .i64 ((ps.getD k Pb.zero).code),.imm ((ps.getD k Pb.zero).names.map aa.str)] 0),(48,.pimm [.str (ps.getD k Pb.zero).doc,.int .i64 ((ps.getD k Pb.zero).pos),.int .i64 ((ps.getD k Pb.zero).fin),.int .i64 ((ps.getD k Pb.zero).code),.imm ((ps.getD k Pb.zero).names.map aa.str)] 1),(49,.int .i64 ((ps.getD k Pb.zero).pos)),(50,.imm (ps.map Pb.v)),(51,nI k),(52,.pimm [.str (ps.getD k Pb.zero).doc,.int .i64 ((ps.getD k Pb.zero).pos),.int .i64 ((ps.getD k Pb.zero).fin),.int .i64 ((ps.getD k Pb.zero).code),.imm ((ps.getD k Pb.zero).names.map aa.str)] 0),(53,.pimm [.str (ps.getD k Pb.zero).doc,.int .i64 ((ps.getD k Pb.zero).pos),.int .i64 ((ps.getD k Pb.zero).fin),.int .i64 ((ps.getD k Pb.zero).code),.imm ((ps.getD k Pb.zero).names.map aa.str)] 1),(54,.int .i64 ((ps.getD k Pb.zero).pos)),(55,.bool false),(58,.imm (ps.map Pb.v)),(59,nI k),(60,.pimm [.str (ps.getD k Pb.zero).doc,.int .i64 ((ps.getD k Pb.zero).pos),.int .i64 ((ps.getD k Pb.zero).fin),.int .i64 ((ps.getD k Pb.zero).code),.imm ((ps.getD k Pb.zero).names.map aa.str)] 0),(61,.pimm [.str (ps.getD k Pb.zero).doc,.int .i64 ((ps.getD k Pb.zero).pos),.int .i64 ((ps.getD k Pb.zero).fin),.int .i64 ((ps.getD k Pb.zero).code),.imm ((ps.getD k Pb.zero).names.map aa.str)] 2),(62,.int .i64 ((ps.getD k Pb.zero).fin)),(63,.imm (ps.map Pb.v)),(64,nI k),(65,.pimm [.str (ps.getD k Pb.zero).doc,.int .i64 ((ps.getD k Pb.zero).pos),.int .i64 ((ps.getD k Pb.zero).fin),.int .i64 ((ps.getD k Pb.zero).code),.imm ((ps.getD k Pb.zero).names.map aa.str)] 0),(66,.pimm [.str (ps.getD k Pb.zero).doc,.int .i64 ((ps.getD k Pb.zero).pos),.int .i64 ((ps.getD k Pb.zero).fin),.int .i64 ((ps.getD k Pb.zero).code),.imm ((ps.getD k Pb.zero).names.map aa.str)] 2),(67,.int .i64 ((ps.getD k Pb.zero).fin)),(68,.bool false),(71,.imm (ps.map Pb.v)),(72,nI k),(73,.pimm [.str (ps.getD k Pb.zero).doc,.int .i64 ((ps.getD k Pb.zero).pos),.int .i64 ((ps.getD k Pb.zero).fin),.int .i64 ((ps.getD k Pb.zero).code),.imm ((ps.getD k Pb.zero).names.map aa.str)] 0),(74,.pimm [.str (ps.getD k Pb.zero).doc,.int .i64 ((ps.getD k Pb.zero).pos),.int .i64 ((ps.getD k Pb.zero).fin),.int .i64 ((ps.getD k Pb.zero).code),.imm ((ps.getD k Pb.zero).names.map aa.str)] 3),(75,.int .i64 ((ps.getD k Pb.zero).code)),(76,.imm (ps.map Pb.v)),(77,nI k),(78,.pimm [.str (ps.getD k Pb.zero).doc,.int .i64 ((ps.getD k Pb.zero).pos),.int .i64 ((ps.getD k Pb.zero).fin),.int .i64 ((ps.getD k Pb.zero).code),.imm ((ps.getD k Pb.zero).names.map aa.str)] 0),(79,.pimm [.str (ps.getD k Pb.zero).doc,.int .i64 ((ps.getD k Pb.zero).pos),.int .i64 ((ps.getD k Pb.zero).fin),.int .i64 ((ps.getD k Pb.zero).code),.imm ((ps.getD k Pb.zero).names.map aa.str)] 3),(80,.int .i64 ((ps.getD k Pb.zero).code)),(81,.bool (((ps.getD k Pb.zero).code) != ((ps.getD k Pb.zero).code)))] ?_ ?_
 refine qo ?_ ?_
 refine qr 1 ?_ ?_
 refine qy (aI (a:=((k:Nat):Int)) (b:=1) kq oq oq) ?_ ?_ ?_
 refine qr 1 ?_ ?_
 refine qe ?_ ?_
 refine ab ⟨k+1,?_,?_,⟨⟨kq,kq,kq,trivial⟩,by simp [aG,aa.bel],by simp,kq,by simp [ai.belO,av,aB,aa.bel,Ty.v,Ex.v,Ct.v,Co.v,Rf.v,Sm.v,Tb.v_cs,Sc.v,Md.v,Pb.v,Ls.v,-List.map_take,-List.map_drop,-List.map_append]⟩⟩
 · omega
 · omega
 iterate 9 kernel_rfl
 · exfalso;simp_all
 iterate 10 kernel_rfl
 · exfalso;simp_all
 iterate 9 kernel_rfl
 · exfalso;simp_all
 iterate 9 kernel_rfl
 · exfalso;simp_all
 iterate 9 kernel_rfl
 · exfalso;simp_all
 iterate 20 kernel_rfl
 refine qf (decide_eq_false hb2) ?_ ?_
 refine a6 0 kq kq ?_
 refine af ?_
 refine af ?_
 refine aE ?_
 refine ab ?_
 refine qz [] ?_ ?_
 refine qV 1 ?_ ?_
 refine qT ?_ ?_
 refine a7 (b:=true) (.inr rfl) kq ?_
 · rfl
 iterate 16 kernel_rfl
 · exfalso;simp_all
 iterate 10 kernel_rfl
noncomputable def c36:Code:=aT Tryz.f36
theorem rt (ms:List Md) (hn:ms.length≤2) (hm:∀ i,(ms.getD i Md.zero).decls.length≤40) (hk1:∀ i,i<ms.length→∀ k,k<(ms.getD i Md.zero).decls.length→(dcl ms i k).kind=1):ao cx 36 [.imm (ms.map Md.v)] (.imm []):=by
 refine aC (cx:=cx) 143 0 [(ResultVar.tmp 2)] Tryz.func36 rfl rfl rfl rfl rfl zq ?_
 show wpA cx 143 0 (at_ c36 []) _ _ _
 refine qZ [(0,.imm (ms.map Md.v))] [] ?_ ?_
 refine qU 1 [(0,.imm (ms.map Md.v))] ?_ ?_
 refine qU 1 [(0,.imm (ms.map Md.v)),(3,.full [])] ?_ ?_
 refine qU 2 [(0,.imm (ms.map Md.v)),(3,.full []),(4,.full []),(5,.full [])] ?_ ?_
 refine az ?_ ?_
 refine qU 1 [(0,.imm (ms.map Md.v)),(3,.full []),(4,.full []),(5,.full []),(6,.int .i64 0)] ?_ ?_
 refine qB 0 ?_ ?_ ?_
 refine bn (σ:=Nat) (fun i=>[(0,.imm (ms.map Md.v)),(3,.full []),(4,.full []),(5,.full []),(6,.int .i64 ((i:Nat):Int))]) (fun i=>[]) (fun i=>i≤ms.length) (fun i=>ms.length - i) 0 kq (by exact Nat.zero_le _) ⟨⟨kq,kq,kq,kq,kq,trivial⟩,by simp [aG,aa.bel],by simp,kq,by simp [ai.belO,av,aB,aa.bel,Ty.v,Ex.v,Ct.v,Co.v,Rf.v,Sm.v,Tb.v_cs,Sc.v,Md.v,Pb.v,Ls.v,-List.map_take,-List.map_drop,-List.map_append]⟩ ?_
 rintro i hi
 have hmi:=hm i
 refine az ?_ ?_
 refine qV 2 ?_ ?_
 refine qy (aw (l:=ms) (enc:=Md.v) kq iw) ?_ ?_ ?_
 refine qR 1 [(0,.imm (ms.map Md.v)),(3,.full []),(4,.full []),(5,.full []),(6,nI i),(19,.bool (decide (((i:Nat):Int)<((ms.length:Nat):Int))))] [] ?_ ?_
 by_cases hb1:((i:Nat):Int)<((ms.length:Nat):Int)
 refine qt (decide_eq_true hb1) ?_ ?_
 refine qK ?_ ?_
 refine qz [(0,.imm (ms.map Md.v)),(3,.full []),(4,.full []),(5,.full []),(6,nI i)] ?_ ?_
 refine az ?_ ?_
 refine qB 1 ?_ ?_ ?_
 refine qU 1 [(0,.imm (ms.map Md.v)),(3,.full []),(4,.full []),(5,.full []),(6,nI i),(7,.int .i64 0)] ?_ ?_
 refine qB 2 ?_ ?_ ?_
 refine bn (σ:=Nat) (fun k=>[(0,.imm (ms.map Md.v)),(3,.full []),(4,.full []),(5,.full []),(6,.int .i64 ((i:Nat):Int)),(7,.int .i64 ((k:Nat):Int))]) (fun k=>[]) (fun k=>k≤(ms.getD i Md.zero).decls.length) (fun k=>(ms.getD i Md.zero).decls.length - k) 0 kq (by exact Nat.zero_le _) ⟨⟨kq,kq,kq,kq,kq,kq,trivial⟩,by simp [aG,aa.bel],by simp,kq,by simp [ai.belO,av,aB,aa.bel,Ty.v,Ex.v,Ct.v,Co.v,Rf.v,Sm.v,Tb.v_cs,Sc.v,Md.v,Pb.v,Ls.v,-List.map_take,-List.map_drop,-List.map_append]⟩ ?_
 rintro k hk
 refine az ?_ ?_
 refine qV 3 ?_ ?_
 refine qy ((aA (k:=.i64) (l:=ms) (enc:=Md.v) (i:=((i:Nat):Int)) Md.zero kq iw mE (fun _=>rfl) oq oq).trans (congrArg (fun cs=>some (aa.pimm cs 0,_)) (dh (ms.getD i Md.zero)))) ?_ ?_ ?_
 refine qr 2 ?_ ?_
 refine qy (aw (l:=(ms.getD i Md.zero).decls) (enc:=Dc.v) kq dG) ?_ ?_ ?_
 refine qR 1 [(0,.imm (ms.map Md.v)),(3,.full []),(4,.full []),(5,.full []),(6,nI i),(7,nI k),(29,.bool (decide (((k:Nat):Int)<(((ms.getD i Md.zero).decls.length:Nat):Int))))] [] ?_ ?_
 by_cases hb2:((k:Nat):Int)<(((ms.getD i Md.zero).decls.length:Nat):Int)
 refine qt (decide_eq_true hb2) ?_ ?_
 refine qK ?_ ?_
 refine qz [(0,.imm (ms.map Md.v)),(3,.full []),(4,.full []),(5,.full []),(6,nI i),(7,nI k)] ?_ ?_
 refine az ?_ ?_
 refine qB 3 ?_ ?_ ?_
 refine qV 2 ?_ ?_
 refine qy ((aA (k:=.i64) (l:=ms) (enc:=Md.v) (i:=((i:Nat):Int)) Md.zero kq iw mE (fun _=>rfl) oq oq).trans (congrArg (fun cs=>some (aa.pimm cs 0,_)) (dh (ms.getD i Md.zero)))) ?_ ?_ ?_
 refine qr 3 ?_ ?_
 refine qy ((aA (k:=.i64) (l:=(ms.getD i Md.zero).decls) (enc:=Dc.v) (i:=((k:Nat):Int)) Dc.zero kq dG iV (fun _=>rfl) oq oq).trans (congrArg (fun cs=>some (aa.pimm cs 0,_)) (eR ((ms.getD i Md.zero).decls.getD k Dc.zero)))) ?_ ?_ ?_
 refine qR 3 [(0,.imm (ms.map Md.v)),(3,.full []),(4,.full []),(5,.full []),(6,nI i),(7,nI k),(8,.ptr 0 0)] [.box (Dc.cs ((ms.getD i Md.zero).decls.getD k Dc.zero))] ?_ ?_
 refine az ?_ ?_
 refine qV 4 ?_ ?_
 by_cases hb3:(((ms.getD i Md.zero).decls.getD k Dc.zero).kind)=0
 · exfalso;have:=hk1 i oq k oq;rw [dcl] at this;omega
 refine qm [42,43] (x:=((((ms.getD i Md.zero).decls.getD k Dc.zero).kind) != 0)) (bne_iff_ne.2 hb3) ?_ ?_
 refine qR 6 [(0,.imm (ms.map Md.v)),(3,.full []),(4,.full []),(5,.full []),(6,nI i),(7,nI k),(8,.ptr 0 0),(44,.tup []),(45,.tup []),(46,.tup []),(47,.tup []),(48,.tup []),(49,.bool true)] [.box (Dc.cs ((ms.getD i Md.zero).decls.getD k Dc.zero))] ?_ ?_
 refine cU kq kq ?_
 refine a6 3 kq kq ?_
 refine af ?_
 refine aE ?_
 refine ab ?_
 refine qz [(0,.imm (ms.map Md.v)),(3,.full []),(4,.full []),(5,.full []),(6,nI i),(7,nI k),(44,.tup []),(45,.tup []),(46,.tup []),(47,.tup []),(48,.tup [])] ?_ ?_
 refine qo ?_ ?_
 refine qr 1 ?_ ?_
 refine qy (aI (a:=((k:Nat):Int)) (b:=1) kq oq oq) ?_ ?_ ?_
 refine qr 1 ?_ ?_
 refine qe ?_ ?_
 refine ab ⟨k+1,?_,?_,⟨⟨kq,kq,kq,kq,kq,kq,trivial⟩,by simp [aG,aa.bel],by simp,kq,by simp [ai.belO,av,aB,aa.bel,Ty.v,Ex.v,Ct.v,Co.v,Rf.v,Sm.v,Tb.v_cs,Sc.v,Md.v,Pb.v,Ls.v,-List.map_take,-List.map_drop,-List.map_append]⟩⟩
 · omega
 · omega
 iterate 24 kernel_rfl
 refine qf (decide_eq_false hb2) ?_ ?_
 refine a6 2 kq kq ?_
 refine af ?_
 refine af ?_
 refine aE ?_
 refine ah ?_
 refine ab ?_
 refine qz [(0,.imm (ms.map Md.v)),(3,.full []),(4,.full []),(5,.full []),(6,nI i)] ?_ ?_
 refine qo ?_ ?_
 refine qr 1 ?_ ?_
 refine qy (aI (a:=((i:Nat):Int)) (b:=1) kq oq oq) ?_ ?_ ?_
 refine qr 1 ?_ ?_
 refine qe ?_ ?_
 refine ab ⟨i+1,?_,?_,⟨⟨kq,kq,kq,kq,kq,trivial⟩,by simp [aG,aa.bel],by simp,kq,by simp [ai.belO,av,aB,aa.bel,Ty.v,Ex.v,Ct.v,Co.v,Rf.v,Sm.v,Tb.v_cs,Sc.v,Md.v,Pb.v,Ls.v,-List.map_take,-List.map_drop,-List.map_append]⟩⟩
 · omega
 · omega
 iterate 25 kernel_rfl
 refine qf (decide_eq_false hb1) ?_ ?_
 refine a6 0 kq kq ?_
 refine af ?_
 refine af ?_
 refine aE ?_
 refine ab ?_
 refine qz [(3,.full [])] ?_ ?_
 refine qU 2 [(2,.full [])] ?_ ?_
 refine cK kq ?_
 refine gH (l:=[.full []]) (.inr rfl) kq ?_
 · simp [a8,aa.frz,aZ]
 iterate 16 kernel_rfl
end Go.Proofs.YtcpklndelobigaaGreatDoor
