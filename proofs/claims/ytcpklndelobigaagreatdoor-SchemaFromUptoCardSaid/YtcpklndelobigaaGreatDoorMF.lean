/- A part of the proof: plain lemmas and walks. No condition. -/
import Derived.Test.YtcpklndelobigaaGreatDoorME
set_option linter.all false
namespace Go.Proofs.YtcpklndelobigaaGreatDoor
open Go.Proofs.YtcpklndelobigaaGreatDoor.Abs
set_option maxRecDepth 20000
set_option maxHeartbeats 4000000
def dcS (x:Sm):Dc:=⟨0,x.name,x,Tb.zero,0,0,0⟩
def dcT (t:Tb):Dc:=⟨1,t.name,Sm.zero,t,0,0,0⟩
def eN (s:Sc):List Dc:=s.sums.map dcS++s.tabs.map dcT
theorem Hr (s:Sc) {i:Nat} (h:¬ ((i:Nat):Int)<((s.sums.length:Nat):Int)):([]:List Dc)++(s.sums.take i).map dcS=s.sums.map dcS:=by rw [List.take_of_length_le oq];rfl
noncomputable def c23:Code:=aF Tryz.f23
abbrev Ir (s:Sc)(k:Nat):List aa:=[.agg [.int .i64 1,.str (s.tabs.getD k Tb.zero).name,.str [],.full [],.str (s.tabs.getD k Tb.zero).name,.imm ((s.tabs.getD k Tb.zero).cols.map Co.v),.imm ((s.tabs.getD k Tb.zero).key.map aa.str),.imm ((s.tabs.getD k Tb.zero).refs.map Rf.v),.int .i64 ((s.tabs.getD k Tb.zero).chk.kind),.str (s.tabs.getD k Tb.zero).chk.name,.int .i64 ((s.tabs.getD k Tb.zero).chk.n),.str (s.tabs.getD k Tb.zero).chk.s,.imm ((s.tabs.getD k Tb.zero).chk.names.map aa.str),.imm ((s.tabs.getD k Tb.zero).chk.binds.map aa.str),.imm ((s.tabs.getD k Tb.zero).chk.kids.map Ex.enc),.int .i64 ((s.tabs.getD k Tb.zero).chk.pos),.int .i64 ((s.tabs.getD k Tb.zero).chk.fin),.full [],.bool false,.int .i64 0,.str [],.int .i64 0,.full [],.full [],.int .i64 0,.str [],.int .i64 0,.str [],.full [],.full [],.full [],.int .i64 0,.int .i64 0,.full [],.int .i64 0,.int .i64 0,.int .i64 0]]
abbrev Hk (s:Sc)(i:Nat):List aa:=[.agg [.int .i64 0,.str (s.sums.getD i Sm.zero).name,.str (s.sums.getD i Sm.zero).name,.imm ((s.sums.getD i Sm.zero).ctors.map Ct.v),.str [],.full [],.full [],.full [],.int .i64 0,.str [],.int .i64 0,.str [],.full [],.full [],.full [],.int .i64 0,.int .i64 0,.full [],.bool false,.int .i64 0,.str [],.int .i64 0,.full [],.full [],.int .i64 0,.str [],.int .i64 0,.str [],.full [],.full [],.full [],.int .i64 0,.int .i64 0,.full [],.int .i64 0,.int .i64 0,.int .i64 0]]
abbrev va (s:Sc)(k:Nat):=((s.sums.map dcS)++(s.tabs.take k).map dcT)
abbrev L2 (s:Sc)(i:Nat):=((([]:List Dc)++(s.sums.take i).map dcS)++[(Dc.mk 0 ((s.sums.getD i Sm.zero).name) (s.sums.getD i Sm.zero) (Tb.mk [] [] [] [] (Ex.mk 0 [] 0 [] [] [] [] 0 0)) 0 0 0)])
abbrev Lo (s:Sc)(k:Nat):=((va s k)++[(Dc.mk 1 ((s.tabs.getD k Tb.zero).name) (Sm.mk [] []) (s.tabs.getD k Tb.zero) 0 0 0)])
abbrev Cy (s:Sc)(i:Nat):=(([]:List Dc)++(s.sums.take i).map dcS)
abbrev IW (s:Sc):List aa:=[.imm (s.sums.map Sm.v),.imm (s.tabs.map Tb.v)]
theorem Ii {p:Prop} (h:p:=by simp [ax.belO,aM,dW,aa.bel,Ty.v,Ex.v,Ct.v,Co.v,Rf.v,Sm.v,Tb.v_cs,Sc.v,Md.v,Pb.v,Ls.v,-List.map_take,-List.map_drop,-List.map_append,-List.map_map]):p:=h
theorem Ob {p:Prop} (h:p:=by simp [oA,aQ,aa.frz,List.map_append,Dc.v,Dc.cs,Ex.kind,Ex.name,Ex.n,Ex.s,Ex.names,Ex.binds,Ex.kids,Ex.pos,Ex.fin,Ty.v,Ex.v,Ct.v,Co.v,Rf.v,Sm.v,Tb.v_cs,Sc.v,Md.v,Pb.v,Ls.v,-List.map_take,-List.map_drop,-List.map_map]):p:=h
theorem Ox {p:Prop} (h:p:=by simp [eZ,aG,aa.owns,Ty.v,Ex.v,Ct.v,Co.v,Rf.v,Sm.v,Tb.v_cs,Sc.v,Md.v,Pb.v,Ls.v,-List.map_take,-List.map_drop,-List.map_append,-List.map_map]):p:=h
theorem Pp {p:Prop} (h:p:=by rw [Hr s aq,List.take_zero,List.map_nil,List.append_nil] <;> (show _=_;kernel_rfl)):p:=h
theorem y5 (s:Sc) (h1:s.sums.length<=100) (h2:s.tabs.length<=100):af cx 23 [Sc.v s] (.imm ((eN s).map Dc.v)):=by
 refine am (cx:=cx) 51 0 [(ResultVar.tmp 2)] Tryz.func23 rfl rfl rfl rfl rfl zq ?_;show wpA cx 51 0 (at_ c23 []) _ _ _;refine zZ (fun _=>[(0,Sc.v s)]) (fun _=>[]) ?_ ?_;apply zW 2 (mT [(1,.ptr 0 0)] [0]) (mH [] [.box (IW s)]);apply zW 1 (mU [(3,.full [])]) id;refine jZ 3 37 dq kq ?_;apply zZ (mK 1 [] []) (mO [(1,.arr 37 (([]:List (Dc)).map Dc.v) 0)]);apply ao;apply zW 1 (mU [(4,.int .i64 0)]) id;apply qB 0;refine aU (σ:=Nat) (fun i=>[(1,.ptr 0 0),(3,.own 1 0 (([]:List Dc)++(s.sums.take i).map dcS).length),(4,.int .i64 ((i:Nat):Int))]) (fun i=>[.box [.imm (s.sums.map Sm.v),.imm (s.tabs.map Tb.v)],.arr 37 ((([]:List Dc)++(s.sums.take i).map dcS).map Dc.v) 0]) (fun i=>i<=s.sums.length) (fun i=>s.sums.length - i) 0 kq iG (fg kq kq az Ii) ?_;rintro i hi;have hl1:(([]:List Dc)++(s.sums.take i).map dcS).length<=i:=by simp only [List.nil_append,List.length_map,List.length_take];omega
 apply ao;apply zV 3;refine qy (aw (l:=s.sums) (enc:=Sm.v) kq cK) ?_ ?_ ?_;apply zR 1 (mU [(10,.bool (decide (((i:Nat):Int)<((s.sums.length:Nat):Int))))]) id;by_cases hb1:((i:Nat):Int)<((s.sums.length:Nat):Int);apply qt (decide_eq_true hb1);apply qK;apply zZ (mT [] [10]) id;apply ao;apply qB 1;refine zD cxM kq (dE aj) ?_;apply qu 4;refine qd ((av (k:=.i64) (l:=s.sums) (enc:=Sm.v) (i:=((i:Nat):Int)) Sm.zero kq cK en (fun _=>rfl) ar ar).trans (congrArg (fun cs=>some (aa.pimm cs 0,_)) (dQ (s.sums.getD i Sm.zero)))) ?_ ?_ ?_ ?_;apply qu 5;refine qd ((av (k:=.i64) (l:=s.sums) (enc:=Sm.v) (i:=((i:Nat):Int)) Sm.zero kq cK en (fun _=>rfl) ar ar).trans (congrArg (fun cs=>some (aa.pimm cs 0,_)) (dQ (s.sums.getD i Sm.zero)))) ?_ ?_ ?_ ?_;apply qu 3;refine qD (cl (o:=1) (len:=((Cy s i).length)) (l:=(Cy s i)) (xs:=(Hk s i)) (enc:=Dc.v) (sz:=37) (fr:=0) (x:=(.full (Hk s i))) kq ga oB ga rfl kq rfl d3 kq ⟨by decide,dZ⟩ kq bG bG) ?_ ?_ ?_ ?_;apply qu 1;refine bh kq ⟨kq,?_⟩;apply ag;apply ab;refine zZ (fun _=>[(1,.ptr 0 0),(3,.own 1 0 ((Cy s i).length+1)),(4,nI i)]) (fun _=>[.box (IW s),.arr 37 ((Cy s i).map Dc.v++(Hk s i)) 0]) ?_ ?_;refine fA 1 (sz:=37) (fr:=0) (es:=((Cy s i).map Dc.v++(Hk s i))) ((L2 s i).map Dc.v) kq Ox Ob ?_;refine ky 3 (.own 1 0 ((Cy s i).length+1)) (.own 1 0 (L2 s i).length) kq (by first|(simp;done)|(simp;omega)) ?_;apply zZ (mK 1 [] []) (mO [(1,.arr 37 ((L2 s i).map Dc.v) 0)]);apply qo;apply qr 1;refine qy (aA (a:=((i:Nat):Int)) (b:=1) kq ar ar) ?_ ?_ ?_;apply qr 1;apply qe;refine ab ⟨i+1,?_,?_,⟨⟨kq,(hT (by rw [Dt (L:=s.sums) (d:=Sm.zero) oq]) kq),kq,trivial⟩,az,by simp,(hT (by rw [Dt (L:=s.sums) (d:=Sm.zero) oq]) kq),Ii⟩⟩
 . omega
 . omega
 iterate 27 kernel_rfl
 apply qf (decide_eq_false hb1);refine aK 0 kq kq ?_;apply ac;apply ac;apply au;apply ab;apply zZ (mT [] [4,10]) id;apply ao;apply zW 1 (mU [(5,.int .i64 0)]) id;apply qB 2;refine aU (σ:=Nat) (fun k=>[(1,.ptr 0 0),(3,.own 1 0 ((s.sums.map dcS)++(s.tabs.take k).map dcT).length),(5,.int .i64 ((k:Nat):Int))]) (fun k=>[.box [.imm (s.sums.map Sm.v),.imm (s.tabs.map Tb.v)],.arr 37 (((s.sums.map dcS)++(s.tabs.take k).map dcT).map Dc.v) 0]) (fun k=>k<=s.tabs.length) (fun k=>s.tabs.length - k) 0 kq iG ⟨⟨kq,(Eq.trans (b:=.own 1 0 (([]:List Dc)++(s.sums.take i).map dcS).length) kq Pp),kq,trivial⟩,az,by simp,(Eq.trans (b:=[.box [.imm (s.sums.map Sm.v),.imm (s.tabs.map Tb.v)],.arr 37 ((([]:List Dc)++(s.sums.take i).map dcS).map Dc.v) 0]) kq Pp),Ii⟩ ?_;rintro k hk;have hl2:((s.sums.map dcS)++(s.tabs.take k).map dcT).length<=s.sums.length+k:=by simp only [List.length_append,List.length_map,List.length_take];omega
 apply ao;apply zV 3;refine qy (aw (l:=s.tabs) (enc:=Tb.v) kq b7) ?_ ?_ ?_;apply zR 1 (mU [(32,.bool (decide (((k:Nat):Int)<((s.tabs.length:Nat):Int))))]) id;by_cases hb2:((k:Nat):Int)<((s.tabs.length:Nat):Int);apply qt (decide_eq_true hb2);apply qK;apply zZ (mT [] [32]) id;apply ao;apply qB 3;refine zD cxM kq (dE aj) ?_;apply qu 4;refine qd ((av (k:=.i64) (l:=s.tabs) (enc:=Tb.v) (i:=((k:Nat):Int)) Tb.zero kq b7 cN (fun _=>rfl) ar ar).trans (congrArg (fun cs=>some (aa.pimm cs 0,_)) (cQ (s.tabs.getD k Tb.zero)))) ?_ ?_ ?_ ?_;apply qu 5;refine qd ((av (k:=.i64) (l:=s.tabs) (enc:=Tb.v) (i:=((k:Nat):Int)) Tb.zero kq b7 cN (fun _=>rfl) ar ar).trans (congrArg (fun cs=>some (aa.pimm cs 0,_)) (cQ (s.tabs.getD k Tb.zero)))) ?_ ?_ ?_ ?_;apply qu 3;refine qD (cl (o:=1) (len:=((va s k).length)) (l:=(va s k)) (xs:=(Ir s k)) (enc:=Dc.v) (sz:=37) (fr:=0) (x:=(.full (Ir s k))) kq ga oB ga rfl kq rfl d3 kq ⟨by decide,dZ⟩ kq bG bG) ?_ ?_ ?_ ?_;apply qu 1;refine bh kq ⟨kq,?_⟩;apply ag;apply ab;refine zZ (fun _=>[(1,.ptr 0 0),(3,.own 1 0 ((va s k).length+1)),(5,nI k)]) (fun _=>[.box (IW s),.arr 37 ((va s k).map Dc.v++(Ir s k)) 0]) ?_ ?_;refine fA 1 (sz:=37) (fr:=0) (es:=((va s k).map Dc.v++(Ir s k))) ((Lo s k).map Dc.v) kq Ox Ob ?_;refine ky 3 (.own 1 0 ((va s k).length+1)) (.own 1 0 (Lo s k).length) kq (by first|(simp;done)|(simp;omega)) ?_;apply zZ (mK 1 [] []) (mO [(1,.arr 37 ((Lo s k).map Dc.v) 0)]);apply qo;apply qr 1;refine qy (aA (a:=((k:Nat):Int)) (b:=1) kq ar ar) ?_ ?_ ?_;apply qr 1;apply qe;refine ab ⟨k+1,?_,?_,⟨⟨kq,(hT (by rw [Dt (L:=s.tabs) (d:=Tb.zero) oq]) kq),kq,trivial⟩,az,by simp,(hT (by rw [Dt (L:=s.tabs) (d:=Tb.zero) oq]) kq),Ii⟩⟩
 . omega
 . omega
 iterate 27 kernel_rfl
 apply qf (decide_eq_false hb2);refine aK 2 kq kq ?_;apply ac;apply ac;apply au;apply ab;apply zZ (mT [] [1,5,32]) id;refine zW 2 (fun _=>[(2,.own 1 0 (va s k).length)]) (fun _=>[.box (IW s),.arr 37 ((va s k).map Dc.v) 0]) ?_ ?_;refine bq kq ?_;refine cq (l:=[.own 1 0 ((s.sums.map dcS)++(s.tabs.take k).map dcT).length]) (.inr rfl) kq ?_
 . have e_:k=s.tabs.length:=by omega
   subst e_;rw [List.take_length];simp [bg,aa.frz,aQ,eN,dW,eZ,-List.map_map]
 iterate 27 kernel_rfl
theorem Ty.beq_refl (t:Ty):t.beq t=true:=by
 induction hN:t.sz using Nat.strongRecOn generalizing t with|_ N ih =>
 have:=cd Ty.beq Ty.zero Ty.zero t.kids t.kids rfl (fun i hi=>ih _ (by rw [<- hN];exact fv t i hi) _ rfl);rw [beq_eq,this];simp
theorem Ex.beq_refl (t:Ex):t.beq t=true:=by
 induction hN:t.sz using Nat.strongRecOn generalizing t with|_ N ih =>
 have:=cd Ex.beq Ex.zero Ex.zero t.kids t.kids rfl (fun i hi=>ih _ (by rw [<- hN];exact uT t i hi) _ rfl);rw [AD,this];simp
theorem kR {α:Type} (p:α->α->Bool) (d:α) (l:List α) (h:∀ x,p x x=true):bX p l l=true:=cd p d d l l rfl (fun _ _=>h _)
theorem Ct.beq_refl (c:Ct):c.beq c=true:=by simp [Ct.beq,Ty.beq_refl]
theorem Co.beq_refl (c:Co):c.beq c=true:=by simp [Co.beq,Ty.beq_refl]
theorem Rf.beq_refl (c:Rf):c.beq c=true:=by simp [Rf.beq]
theorem Sm.beq_refl (c:Sm):c.beq c=true:=by simp [Sm.beq,kR Ct.beq Ct.zero c.ctors Ct.beq_refl]
theorem Tb.beq_refl (c:Tb):c.beq c=true:=by simp [Tb.beq,kR Co.beq Co.zero c.cols Co.beq_refl,kR Rf.beq Rf.zero c.refs Rf.beq_refl,Ex.beq_refl]
theorem Sc.beq_refl (c:Sc):c.beq c=true:=by simp [Sc.beq,kR Sm.beq Sm.zero c.sums Sm.beq_refl,kR Tb.beq Tb.zero c.tabs Tb.beq_refl]
section
variable {O:List UInt8->Bool} {U:Ty->Bool} {Y:Ex->Int} {V:List Md} {Z:List Sm}
theorem yq:(oG O U Y V Z).tabs.Perm (itP (stI O U Y V V.length).bp.1 9 (stI O U Y V V.length).out):=lG _ _ (Nat.le_refl _)
theorem tu:AU O U Y V Z=oG O U Y V Z/\(srI O U Y V V.length).ps=(stI O U Y V V.length).bp.2:=by
 have h:=GW (O:=O) (U:=U) (Y:=Y) (V:=V) V.length;refine ⟨?_,h.ps.symm⟩;have hp:(fJ (itP (stI O U Y V V.length).bp.1 9 (stI O U Y V V.length).out).length (itP (stI O U Y V V.length).bp.1 9 (stI O U Y V V.length).out)).Perm (itP (stI O U Y V V.length).bp.1 9 (stI O U Y V V.length).out):=lG _ _ (Nat.le_refl _);have hs:zl (fJ (itP (stI O U Y V V.length).bp.1 9 (stI O U Y V V.length).out).length (itP (stI O U Y V V.length).bp.1 9 (stI O U Y V V.length).out)):=Gr (h.nod.sublist (nt _ _ 9));have h1:(itP (stI O U Y V V.length).bp.1 9 (stI O U Y V V.length).out).length<=(eG (stI O U Y V V.length).bp.1 (itP (stI O U Y V V.length).bp.1 9 (stI O U Y V V.length).out)).length:=Nat.le_of_eq (by rw [JZ uz]);have h2:(itR 9 (srI O U Y V V.length).out).length<=(cH (itR 9 (srI O U Y V V.length).out)).length:=Nat.le_of_eq (by rw [J2 vi]);have:=Az h (k:=9) (k':=9) h1 h2 hp hs;unfold AU oG;rw [this]
theorem MA {p:Tb->Prop} {s:SP} {doc:List UInt8} {d:Dc} {chk':Ex->Bool} {fst:List UInt8->Option Tb} (hd:p (d.tab.named d.name)) (h:∀ t∈s.out,p t):∀ t∈(dP O U chk' fst doc d s).out,p t:=by
 unfold dP;split
 . split
   . exact h
   . intro t ht;rcases List.mem_append.1 ht with q|q
     . exact h t q
     . rw [List.mem_singleton] at q;subst q;exact hd
 . exact h
theorem Bk {p:Tb->Prop} {i:Nat} (hd:∀ k,k<(V.getD i Md.zero).decls.length->p ((dcl V i k).tab.named (dcl V i k).name)) (h:∀ t∈(stI O U Y V i).out,p t):∀ k,k<=(V.getD i Md.zero).decls.length->∀ t∈(stD O U Y V i k).out,p t
 | 0,_=>h
 | k+1,hk=>MA (hd k oq) (Bk hd h k oq)
theorem Ba {p:Tb->Prop} (hd:∀ i,i<V.length->∀ k,k<(V.getD i Md.zero).decls.length->p ((dcl V i k).tab.named (dcl V i k).name)):∀ i,i<=V.length->∀ t∈(stI O U Y V i).out,p t
 | 0,_=>fun t ht=>by cases ht
 | i+1,h=>Bk (hd i oq) (Ba hd i oq) _ (Nat.le_refl _)
def Few (s:BP):Prop:=∀ p∈s.2,p.names.length<=2
theorem jG {doc:List UInt8} {d:Dc} {w:List (List UInt8)} {s:BP} (hw:w.length<=2) (h:Few s):Few (bH doc d w s):=by
 intro p hp;rcases List.mem_append.1 hp with q|q
 . exact h p q
 . rw [List.mem_singleton] at q;subst q;exact hw
theorem kS {a b:BP} {c:Bool} (ha:Few a) (hb:Few b):Few (bif c then a else b):=by cases c;exact hb;exact ha
theorem m6 {n:List UInt8} {s:BP} (h:Few s):Few (eb n s):=h
theorem lK {doc:List UInt8} {d:Dc} {s:BP} (h:Few s):∀ i,Few (jk O U doc d i s)
 | 0=>h
 | i+1=>kS (kS (m6 (lK h i)) (lK h i)) (jG zq (kS (m6 (lK h i)) (lK h i)))
theorem nh {doc:List UInt8} {d:Dc} {s:BP} (h:Few s):∀ i,Few (jW doc d i s)
 | 0=>h
 | i+1=>kS (jG zq (kS (nh h i) (m6 (nh h i)))) (kS (nh h i) (m6 (nh h i)))
theorem Bv {fst:List UInt8->Option Tb} {doc:List UInt8} {d:Dc} {s:BP} (h:Few s):∀ i,Few (bw fst doc d i s)
 | 0=>h
 | i+1=>by
  have h1:Few (bM d.name (aO (bw fst doc d i s).1 d.name || jB fst d i) (bw fst doc d i s).1,(bw fst doc d i s).2):=Bv h i;exact kS (jG zq h1) h1
theorem ME {chk':Ex->Bool} {fst:List UInt8->Option Tb} {doc:List UInt8} {d:Dc} {s:SP} (h:Few s.bp):Few (dP O U chk' fst doc d s).bp:=by
 unfold dP;split
 . split
   . exact jG zq h
   . have h1:Few (cR fst doc d (cj doc d (b8 O U doc d s.bp))):=Bv (nh (kS (jG zq (lK (kS (jG zq h) h) _)) (lK (kS (jG zq h) h) _)) _) _;exact kS (m6 h1) h1
 . exact h
theorem JC {i:Nat} (h:Few (stI O U Y V i).bp):∀ k,Few (stD O U Y V i k).bp
 | 0=>h
 | k+1=>ME (JC h k)
theorem JG:∀ i,Few (stI O U Y V i).bp
 | 0=>fun p hp=>by cases hp
 | i+1=>JC (JG i) _
end
end Go.Proofs.YtcpklndelobigaaGreatDoor
