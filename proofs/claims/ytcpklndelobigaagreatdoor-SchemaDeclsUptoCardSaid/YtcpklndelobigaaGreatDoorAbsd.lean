/- A part of the proof: plain lemmas and walks. No condition. -/
import Derived.Test.YtcpklndelobigaaGreatDoorAbsc
set_option linter.all false
namespace Go.Proofs.YtcpklndelobigaaGreatDoor.Abs
section
variable {cx:Cx} {n m:Nat} {Q:cP} {T:Tm} {h:af} {l:List BOp} {KD:List (List Nat×List Nat)->Tm->af->Prop} {s:DSt}
theorem S5 (o:Nat) (h':af) (hh:db h [o]=h') {d:Code} (hw:wpA cx n m d Q T h'):wpA cx n m d Q T h:=by
 subst hh;intro E B ρ a w hm hr;obtain ⟨ρ',q1,q2,q3,_⟩:=fe [o] hr.wf hr.fr;exact hw E B ρ' a w hm (hr.step q1 q2 q3)
end
section
variable {P:Program} {ev:Operand->aa} {op:Op} {h:af}
theorem gr {α:Type} {enc:α->aa} {sz:Nat} (hok:∀ q,((enc q).cells.length==sz && (enc q).cells.all aa.cellOk)=true) (l:List α):gk sz (l.map enc)=true:=by
 unfold gk;rw [List.all_eq_true];intro x hx;obtain ⟨q,_,rfl⟩:=List.mem_map.1 hx;exact hok q
theorem jW {α:Type} {enc:α->aa} {h0:af} {l:List α} {t e a b a' b':Nat} {z z':aa} {ek:TyK} (hv:uU ev op=some (.append,[t,t],[.full [],.imm (l.map enc)])) (hh:h=h0)
 (ht:aP P t=some ⟨.slice e,a,b,z⟩) (he:aP P e=some ⟨ek,a',b',z'⟩) (hc:0<a'/\z'.cells.length=a') (hok:∀ q,((enc q).cells.length==a' && (enc q).cells.all aa.cellOk)=true) (hf:l.length * b'<=140737488355328) (hf2:l.length<=140737488355328) :
 aop P h ev op=some (.own h0.length 0 l.length,h0++[.arr a' (l.map enc) 0]):=by
 subst hh;rw [iE hv];simp only [dT,kE,ht,he,fz];rw [if_pos ⟨hc.1,hc.2,gr hok l⟩,if_pos ⟨rfl,rfl,by simp [iC];exact ⟨hf,hf2⟩⟩];simp
end
end Go.Proofs.YtcpklndelobigaaGreatDoor.Abs
namespace Go.Proofs.YtcpklndelobigaaGreatDoor.Abs
section
section
variable {cx:Cx} {l:List BOp} {S:Tm×af} {K:Tm->af->Prop}
theorem lH {f:FuncId} {args:List aa} {v:aa} {h':af} (H0:af) (hc:bj l=true) (hg:bt S.1 (hdB l).g=some true) (ho:aop cx.P S.2 (aev cx.G S.1) (hdB l).op=none) (ha:aI (aev cx.G S.1) (hdB l).op=some (f,args)) (hS:S.2=H0) (hq:av cx f args H0 fun v' h''=>v'=v/\h''=h')
 (hk:bS cx l.tail (ci S.1 (hdB l).dst v,h') K):bS cx l S K:=by
 subst hS;exact Bf hc hg ho ha hq (by rintro v' h'' ⟨rfl,rfl⟩;exact hk)
end
end
section
open Go
section
variable {cx:Cx} {h:af}
theorem iK {f:FuncId} {args0 args:List aa} {v0 v:aa} {hs hs' h':af} (L:List Nat) (hc:av cx f args0 hs fun v' g=>v'=v0/\g=hs') (hl:hs.length=L.length) (hnd:L.Nodup) (hb:aC hs.length args0=true) (hbo:hs.all (am.belO hs.length)=true)
 (hobj:L.map (fun o=>h[o]?)=(gL (cb L h.length) hs).map some) (hn:jE h=true) (ha:bX (cb L h.length) args0=args) (hv:v0.ren (cb L h.length)=v) (hh:eY h L hs'=h') :
 av cx f args h fun v' g=>v'=v/\g=h':=by
 subst ha hv hh
 have le:uV h L hs:=by
  refine ⟨hl,hnd,?_,hbo,fun o m left ho=>(lS hn ho).elim⟩;intro i o x hi hx;have e:=congrArg (fun l=>l[i]?) hobj;simp only [jl,List.getElem?_map,hi,hx,Option.map_some] at e;exact Option.some.inj e
 exact gE le hc hb (by rintro v' g _ ⟨rfl,rfl⟩;exact ⟨rfl,rfl⟩)
end
end
section
open Go
section
variable {cx:Cx} {l:List BOp} {S:RSt} {K:Tm->af->Prop}
theorem vZ {f:FuncId} {args args':List aa} {v:aa} {F:af} (hc:bj l=true) (hg:bt S.1 (hdB l).g=some true) (ho:aop cx.P S.2 (bU cx S) (hdB l).op=none) (ha:aI (bU cx S) (hdB l).op=some (f,args))
 (hq:ae cx f args' v) (H0:af) (hH:S.2=H0) (hf:aN H0 args=args') (hb:aC 0 args'=true) (hF:db H0 (aF args)=F)
 (hk:bS cx l.tail (ci S.1 (hdB l).dst v,F) K):bS cx l S K:=by
 subst hH hF;exact Bf hc hg ho ha (q:=fun v' h'=>v'=v/\h'=db S.2 (aF args)) (jy (by rw [hf];exact hq) (by rw [hf];exact hb) ⟨rfl,rfl⟩) (by rintro v' h' ⟨rfl,rfl⟩;exact hk)
variable {f:FuncId} {args args':List aa} {h:af} {Q:aa->af->Prop}
end
end
end Go.Proofs.YtcpklndelobigaaGreatDoor.Abs
namespace Go.Proofs.YtcpklndelobigaaGreatDoor.Abs
open Go
section
variable {cx:Cx} {n m:Nat} {T:Tm} {h:af} {Q:cP}
theorem bZ (t o:Nat) {es:List aa} {off len sz fr:Nat} (es':List aa) (hx:Tm.get T t=.own o off len) (ho:h[o]?=some (.arr sz es fr)) (htip:off+len=es.length) (hes:es.drop off=es') {d:Code}
 (hk:wpA cx n m d Q ((t,.imm es')::T) (h.set o (.arr sz es es.length))):wpA cx n m d Q T h:=by
 intro E B ρ a w hm hr;obtain ⟨ρ1,g1,g2,g3,g4⟩:=i9 hr.wf hr.fr ho;have hr1:=hr.step g1 g2 g3;refine hk E B ρ1 a w hm ⟨fun t'=>?_,hr1.size,hr1.defers,hr1.glob,hr1.wf,hr1.fr,hr1.le⟩;simp only [Tm.get];by_cases e:t=t'
 . subst e;rw [if_pos rfl,<- hes];exact g4 off len _ htip (hx▸hr.tm t)
 . rw [if_neg e];exact hr1.tm t'
end
section
variable {P:Program} {ev:Operand->aa} {op:Op} {h:af}
end
end Go.Proofs.YtcpklndelobigaaGreatDoor.Abs
namespace Go.Proofs.YtcpklndelobigaaGreatDoor.Abs
section
theorem Ry {cx:Cx} {l:List BOp} {KD:List fH->Tm->af->Prop} {s:DSt} {f:FuncId} {args:List aa} {h':af} {v:aa} (L:List Nat) (H0:af) (hc:bj l=true) (hg:bt s.2.1 (hdB l).g=some true) (hal:fv (hdB l).op=false) (ho:aop cx.P s.2.2.1 (aev cx.G s.2.1) (hdB l).op=none) (ha:aI (aev cx.G s.2.1) (hdB l).op=some (f,args))
 (hS:s.2.2.1=H0) (hq:av cx f args H0 fun v' h''=>v'=v/\h''=h') (hfr:∀ o,o∉L->h'[o]?=H0[o]?) (hne:L.isEmpty=false)
 (hk:bdr cx l.tail (s.1,ci s.2.1 (hdB l).dst v,h',s.2.2.2++[(L,L)]) KD):bdr cx l s KD:=by
 subst hS;refine Hs (h':=h') hc hg hal ho ha ⟨hfr,hq,?_⟩ hk;intro e;rw [e] at hne;simp at hne
end
section
def QF (ev:Operand->aa):Op->Option (Nat×aa)
 | .call { callee:=.builtin .clear,args,argTypes }=>match argTypes.toList,ju ev args.toList with
  | [t],[x]=>some (t,x)
  | _,_=>none
 | _=>none
section
variable {cx:Cx} {bl:List BOp} {K:Tm->af->Prop} {S:RSt}
theorem Gg {P:Program} {h:af} {ev:Operand->aa} {op:Op} {t:Nat} {x:aa} {h':af} (hv:QF ev op=some (t,x)) (hc:pu P h t x=some h'):aop P h ev op=none/\aI ev op=none/\anx P h ev op=some [(.tup [],h')]:=by
 unfold QF at hv;split at hv <;> try (simp at hv;done)
 rename_i args ats;split at hv <;> simp at hv;rename_i e1 e2;obtain ⟨rfl,rfl⟩:=hv;refine ⟨?_,rfl,?_⟩
 . simp only [aop,dT]
 . simp only [anx,e1,e2,RW,hc,Option.map_some]
end
section
variable {P:Program} {ev:Operand->aa} {op:Op} {h:af}
end
end
section
section
variable {cx:Cx} {n m:Nat} {c:Code} {p:List Nat} {Q:cP} {T:Tm} {h:af}
theorem lp {σ:Type} (S:σ->Tm) (H:σ->af) (I:σ->Prop) (hk:ca (at_ c p)=1)
 (h1:wpA cx n m (at_ c (0::p)) (cM (fun T' h'=>∃ s',I s'/\gt m T' h' (S s') (H s')) Q) T h) (h2:∀ s,I s->wpA cx n m (at_ c (1::p)) Q (S s) (H s)):wpA cx n m (at_ c p) Q T h:=by
 refine fS hk (lU h1 ?_);intro e T' h' q;cases e with
 | normal=>obtain ⟨s,hs,hf⟩:=q;exact l3 hf (h2 s hs)
 | _=>exact q
theorem bh {σ:Type} {S:σ->Tm} {H:σ->af} {I:σ->Prop} {Q:cP}:u6 (cM (fun T' h'=>∃ s',I s'/\gt m T' h' (S s') (H s')) Q):=fun _ _ _ he ⟨s',h1,h3⟩=>⟨s',h1,h3.ext he⟩
end
end
section
section
variable {P:Program} {ev:Operand->aa} {op:Op} {h:af}
theorem yV {t:Nat} {o idx off k sz fr:Nat} {es:List aa} {x y:aa} (y':aa) {i:TyI} (hv:nr ev op=some (t,.pown o idx off k,x)) (ho:h[o]?=some (.arr sz es fr)) (hl:es.length=k) (hf:fr<=idx) (hy:es[idx]?=some y) (ht:aP P t=some i)
 (hok:x.cells.length=i.size/\x.cells.all aa.cellOk=true) (hb:off+i.size<=y.cells.length) (hw:y.withCells (e6 y.cells off x.cells)=some y'):aop P h ev op=some (.any,h.set o (.arr sz (es.set idx y') fr)):=by
 unfold nr at hv;split at hv <;> simp at hv;obtain ⟨rfl,h2,h3⟩:=hv;simp only [aop,h2,h3,fc,ht,ho];rw [if_pos hok];simp only [hl,hf,hy,hb,hw,and_self,if_true,rK]
def VG (ev:Operand->aa):Op->Option (Nat×aa×Nat)
 | .fieldAddr s x f=>some (s,ev x,f)
 | _=>none
def C4 (P:Program) (s:TypeId) (f:Nat):Option Nat :=
 match aP P s with
 | some i=>match i.k with
  | .struct fs=>match fs[f]? with
   | some (off,ft)=>match aP P ft with
    | some j=>if j.size=0 then none else some off
    | none=>none
   | none=>none
  | _=>none
 | none=>none
theorem Da {s f d:Nat} (hd:C4 P s f=some d) (x:aa):gm P h s x f=k4 h x d:=by
 unfold C4 at hd;unfold gm;split at hd <;> try (simp at hd;done)
 split at hd <;> try (simp at hd;done)
 split at hd <;> try (simp at hd;done)
 split at hd <;> try (simp at hd;done)
 split at hd <;> try (simp at hd;done)
 obtain rfl:=Option.some.inj hd;simp only [*,if_false]
theorem jV {s f o idx b n sz fr d:Nat} {es:List aa} (hv:VG ev op=some (s,.pown o idx b n,f)) (ho:h[o]?=some (.arr sz es fr)) (hl:es.length=n) (hd:C4 P s f=some d):aop P h ev op=some (.pown o idx (b+d) n,h):=by
 unfold VG at hv;split at hv <;> simp at hv;obtain ⟨rfl,h2,rfl⟩:=hv;simp only [aop,h2,Da hd,k4,ho,hl,if_true,dI]
theorem uj {α:Type} {enc:α->aa} {l:List α} (X:α) (d:α) {t:Nat} {o idx off k sz:Nat} {x:aa} {i:TyI} (hv:nr ev op=some (t,.pown o idx off k,x)) (ho:h[o]?=some (.arr sz (l.map enc) 0)) (hl:l.length=k) (hi:idx<l.length) (ht:aP P t=some i)
 (hok:x.cells.length=i.size/\x.cells.all aa.cellOk=true) (hb:Nat.ble (off+i.size) (enc (l.getD idx d)).cells.length=true) (hw:(enc (l.getD idx d)).withCells (e6 (enc (l.getD idx d)).cells off x.cells)=some (enc X)):aop P h ev op=some (.any,h.set o (.arr sz ((l.set idx X).map enc) 0)):=by
 have hy:(l.map enc)[idx]?=some (enc (l.getD idx d)):=by
  rw [List.getElem?_map,List.getElem?_eq_getElem hi,List.getD_eq_getElem?_getD,List.getElem?_eq_getElem hi];rfl
 rw [yV (enc X) hv ho (by simpa using hl) (Nat.zero_le _) hy ht hok (Nat.le_of_ble_eq_true hb) hw,List.map_set]
theorem AP {α:Type} {enc:α->aa} {l:List α} (y':aa) (d:α) {t:Nat} {o idx off k sz:Nat} {x:aa} {i:TyI} (hv:nr ev op=some (t,.pown o idx off k,x)) (ho:h[o]?=some (.arr sz (l.map enc) 0)) (hl:l.length=k) (hi:idx<l.length) (ht:aP P t=some i)
 (hok:x.cells.length=i.size/\x.cells.all aa.cellOk=true) (hb:Nat.ble (off+i.size) (enc (l.getD idx d)).cells.length=true) (hw:(enc (l.getD idx d)).withCells (e6 (enc (l.getD idx d)).cells off x.cells)=some y'):aop P h ev op=some (.any,h.set o (.arr sz ((l.map enc).set idx y') 0)):=by
 have hy:(l.map enc)[idx]?=some (enc (l.getD idx d)):=by
  rw [List.getElem?_map,List.getElem?_eq_getElem hi,List.getD_eq_getElem?_getD,List.getElem?_eq_getElem hi];rfl
 exact yV y' hv ho (by simpa using hl) (Nat.zero_le _) hy ht hok (Nat.le_of_ble_eq_true hb) hw
theorem sN {α:Type} {t e:Nat} {enc:α->aa} {l:List α} {es:List aa} {k:IntKind} {i:Int} {a b a' b':Nat} {z z':aa} {ek:TyK} (d:α) (hv:IB ev op=some (t,.full es,.int k i)) (hes:es=l.map enc) (ht:aP P t=some ⟨.slice e,a,b,z⟩) (he:aP P e=some ⟨ek,a',b',z'⟩)
 (hs:∀ x,(enc x).cells.length=a') (h0:0<=i) (h1:i<l.length):aop P h ev op=some (.pimm (enc (l.getD i.toNat d)).cells 0,h):=by
 subst hes;rw [ph hv];have hlt:i.toNat<l.length:=by omega
 have hc:0<=i/\i<((l.map enc).length:Nat):=by rw [List.length_map];exact ⟨h0,h1⟩
 simp only [dD,ht,he,if_pos hc,List.getElem?_map,ny l i.toNat d hlt,Option.map_some,hs,if_true,dI]
end
section
variable {cx:Cx} {n m:Nat} {c:Code} {p:List Nat} {Q:cP} {T:Tm} {h:af}
def Wk (cx:Cx) (n m:Nat) (K:Tm->af->Prop) (T:Tm) (h:af):Prop:=∀ (d:Code) (Q:cP),(∀ T' h',K T' h'->wpA cx n m d Q T' h')->wpA cx n m d Q T h
theorem nz {σ:Type} (S:σ->Tm) (H:σ->af) (I:σ->Prop) (hk:ca (at_ c p)=1)
 (h1:wpA cx n m (at_ c (0::p)) (cM (Wk cx n m (fun T' h'=>∃ s',I s'/\gt m T' h' (S s') (H s'))) Q) T h) (h2:∀ s,I s->wpA cx n m (at_ c (1::p)) Q (S s) (H s)):wpA cx n m (at_ c p) Q T h:=by
 refine fS hk (lU h1 ?_);intro e T' h' q;cases e with
 | normal=>exact q _ _ fun T1 g1 ⟨s,hs,hf⟩=>l3 hf (h2 s hs)
 | _=>exact q
theorem sL {K:Tm->af->Prop} {Q:cP}:u6 (cM (Wk cx n m K) Q):=fun _ _ _ he hw d Q hk=>wM he (hw d Q hk)
end
theorem Kj (h:af) (l:List aa) (i:Nat) (y:aa):aN h (l.set i y)=(aN h l).set i (y.frz h):=by rw [cm,cm,List.map_set]
theorem vP {l:List aa} {i:Nat} {y:aa} (h1:aF l=[]) (h2:y.owns=[]):aF (l.set i y)=[]:=by
 induction l generalizing i with
 | nil=>rfl
 | cons x l ih =>
  simp only [aF,List.append_eq_nil_iff] at h1;cases i with
  | zero=>simp only [List.set_cons_zero,aF,h2,h1.2,List.nil_append]
  | succ i=>simp only [List.set_cons_succ,aF,h1.1,ih h1.2,List.nil_append]
end
section
section
variable {cx:Cx} {n m:Nat} {d:Code} {Q:cP} {T:Tm} {h:af}
theorem Rel.arrCell {E:Ent} {B:p7} {ρ ρ1:Ren} {h1:af} {a:Act} {w:World} {b i j sz fr:Nat} {es cs:List aa} {y y':aa} (hr:Rel cx E B n ρ T h a w) (hr1:Rel cx E B n ρ1 T h1 a w) (ho:h[b]?=some (.arr sz es fr)) (ho1:h1[b]?=some (.arr sz es fr)) (le:Le ρ h w ρ1 h1 w)
 (hi:es[i]?=some (.agg cs)) (hy:cs[j]?=some y) (hsp:∀ v,VR ρ h w y v->VR ρ1 h1 w y' v) :
 ∃ ρ',Rel cx E B n ρ' T (h1.set b (.arr sz (es.set i (.agg (cs.set j y'))) fr)) a w:=by
 have hlt:=(List.getElem?_eq_some_iff.1 ho1).1;have hil:=(List.getElem?_eq_some_iff.1 hi).1
 have hst:=ce (h':=h1.set b (.arr sz (es.set i (.agg (cs.set j y'))) fr)) (w':=w) hr1.wf hr1.fr b (.arr sz (es.set i (.agg (cs.set j y'))) fr) (ρ1.loc b) ρ1.I (by rw [List.getElem?_set_self hlt]) (fun o' ho'=>aY _ _ _ _ ho')
  rfl rfl rfl (Nat.le_refl _) (fun _ _ _=>rfl) (fun x hx=>by rw [ho1] at hx;cases hx;exact ⟨Nat.le_of_eq (List.length_set ..).symm,fun _=>⟨rfl,rfl⟩⟩)
  (fun b j hI=>⟨hI,rfl⟩) (fun b j hI=>.inl hI)
  (fun hb=>.inr ⟨_,ho1,hb,rfl⟩) (fun j hb hI=>hr1.wf.imm b (.arr sz es fr) j ho1 hb hI)
  (fun o' m' left _ hi=>by
   rintro rfl;obtain ⟨_,_,_,_,es0,_,_,h2,_⟩:=hr1.wf.obj o' _ hi;rw [ho1] at h2;cases h2)
  (fun le2=>by
   obtain ⟨q1,q2,q3,q4,q5⟩:=hr1.wf.obj b _ ho1;obtain ⟨f1,f2,f3,f4,f5⟩:=hr.wf.obj b _ ho
   have hloc:ρ1.loc b=ρ.loc b:=by
    obtain ⟨x',r1,r2⟩:=le.obj b _ ho;rw [ho1] at r1;cases r1;exact (r2.2 rfl).2
   refine ⟨by rw [List.length_set];exact q1,by rw [List.length_set];exact q2,q3,?_,?_⟩
   . intro k x hx;by_cases e:k=i
     . subst e;rw [List.getElem?_set_self hil] at hx;cases hx
       have:=q4 k _ hi;simpa [aa.cells] using this
     . rw [List.getElem?_set_ne (fun q=>e q.symm)] at hx;exact q4 k x hx
   . intro hc;obtain ⟨c,t,g1,g2,g3⟩:=q5 hc;obtain ⟨c',t',k1,k2,k3⟩:=f5 (by rw [<- hloc];exact hc);rw [<- hloc,g1] at k1;cases k1
     refine ⟨c,t,g1,g2,fun k x j' y2 v hx hy2 hv=>?_⟩;by_cases e:k=i
     . subst e;rw [List.getElem?_set_self hil] at hx;cases hx
       have hy3:(cs.set j y')[j']?=some y2:=hy2;by_cases e2:j'=j
       . subst e2;rw [List.getElem?_set_self (List.getElem?_eq_some_iff.1 hy).1] at hy3;cases hy3
         exact (hsp v (k3 k (.agg cs) j' y v hi hy (by rw [<- hloc];exact hv))).mono le2
       . rw [List.getElem?_set_ne (fun q=>e2 q.symm)] at hy3;exact (g3 k (.agg cs) j' y2 v hi hy3 hv).mono le2
     . rw [List.getElem?_set_ne (fun q=>e q.symm)] at hx;exact (g3 k x j' y2 v hx hy2 hv).mono le2)
 exact ⟨_,hr1.step hst.1 hst.2.1 hst.2.2⟩
theorem Ox (b i j sz':Nat) {sz fr:Nat} {es cs:List aa} (es':List aa) (hsz:0<sz') (hb:h[b]?=some (.arr sz es fr)) (hi:es[i]?=some (.agg cs)) (hj:cs[j]?=some (.full [])) (he:es.set i (.agg (cs.set j (.own h.length 0 0)))=es') (hk:wpA cx n m d Q T (h.set b (.arr sz es' fr)++[.arr sz' [] 0])):wpA cx n m d Q T h:=by
 intro E B ρ a w hm hr;obtain ⟨ρ1,r1,r2,r3⟩:=hr.ghost sz' hsz;have hlt:=(List.getElem?_eq_some_iff.1 hb).1;obtain ⟨ρ2,q1⟩:=Rel.arrCell hr r1 hb (by rw [List.getElem?_append_left hlt];exact hb) r2 hi hj (y':=.own h.length 0 0) (fun v hv=>by cases hv;exact r3 _);rw [he,List.set_append_left _ _ hlt] at q1;exact hk E B ρ2 a w hm q1
theorem On (b i j o:Nat) {sz fr sz2 fr2:Nat} {es cs es2:List aa} {off len:Nat} (es' es3:List aa) (hbo:b≠o) (hb:h[b]?=some (.arr sz es fr)) (hi:es[i]?=some (.agg cs)) (hj:cs[j]?=some (.own o off len)) (ho:h[o]?=some (.arr sz2 es2 fr2)) (htip:off+len=es2.length) (hes:es2.drop off=es3) (he:es.set i (.agg (cs.set j (.imm es3)))=es')
 (hk:wpA cx n m d Q T ((h.set o (.arr sz2 es2 es2.length)).set b (.arr sz es' fr))):wpA cx n m d Q T h:=by
 intro E B ρ a w hm hr;obtain ⟨ρ1,g1,g2,g3,g4⟩:=i9 hr.wf hr.fr ho;obtain ⟨ρ2,q1⟩:=Rel.arrCell hr (hr.step g1 g2 g3) hb (by rw [aY _ _ _ _ hbo];exact hb) g2 hi hj (y':=.imm es3) (fun v hv=>by rw [<- hes];exact g4 off len v htip hv);rw [he] at q1;exact hk E B ρ2 a w hm q1
end
end
end Go.Proofs.YtcpklndelobigaaGreatDoor.Abs
namespace Go.Proofs.YtcpklndelobigaaGreatDoor.Abs
section
variable {cx:Cx} {n m:Nat} {Q Q':cP} {T T0:Tm} {h h0:af} {c d:Code} {p:List Nat} {l:List BOp} {S:RSt} {K:Tm->af->Prop} {KD:List (List Nat×List Nat)->Tm->af->Prop} {s:DSt}
def pt (k:Nat) (v:aa):Tm->Tm
 | []=>[(k,v)]
 | p::T=>bif Nat.blt p.1 k then p::pt k v T else bif Nat.beq p.1 k then (k,v)::T else (k,v)::p::T
def dl (ds:List Nat):Tm->Tm
 | []=>[]
 | p::T=>bif ds.any (Nat.beq p.1) then dl ds T else p::dl ds T
def pts:Tm->Tm->Tm
 | [],T=>T
 | u::us,T=>pt u.1 u.2 (pts us T)
def mT (us:Tm) (ds:List Nat) (T:Tm):Tm:=pts us (dl ds T)
def mU (us:Tm) (T:Tm):Tm:=pts us T
def fsK:Nat->Tm->Tm
 | 0,T=>T
 | _,[]=>[]
 | n+1,p::T=>pt p.1 p.2 (fsK n T)
def mK (n:Nat) (us:Tm) (ds:List Nat) (T:Tm):Tm:=pts us (dl ds (fsK n T))
def mO:List (Nat×am)->af->af
 | [],h=>h
 | u::us,h=>(mO us h).set u.1 u.2
def mH (us:List (Nat×am)) (ap h:af):af:=mO us h++ap
@[reducible] def mm (_:Tm) (_:af) (K:Tm->af->Prop):Tm->af->Prop:=K
def zZ (g:Tm->Tm) (f:af->af) (hw:wpA cx n m d Q (g T) (f h)) (hk:(ic (sl (g T)) T,h)=(g T,f h)):wpA cx n m d Q T h:=wZ _ _ hk hw
def zW (j:Nat) (g:Tm->Tm) (f:af->af) (hw:wpA cx n m (at_ c (1::p)) Q (g T) (f h)) (hk:wWf cx n c p j (g T) T h=(true,false,g T,f h)):wpA cx n m (at_ c p) Q T h:=wW j _ _ hk hw
def zV (j:Nat) (hw:bS cx ((bOf n (at_ c (0::p))).drop j) (rS (j4 cx.P cx.G j (bOf n (at_ c (0::p))) (T,h))) (mm T h (fun T' h'=>cM (wpA cx n m (at_ c (1::p)) Q) Q .normal T' h')))
 (hk:(Nat.beq (ca (at_ c p)) 1 && uv n (at_ c (0::p)) && (j4 cx.P cx.G j (bOf n (at_ c (0::p))) (T,h)).isSome)=true):wpA cx n m (at_ c p) Q T h:=wV j hk hw
def zO (hw:bS cx (bOf n (at_ c (0::p))) (T,h) (mm T h (fun T' h'=>cM (wpA cx n m (at_ c (1::p)) Q) Q .normal T' h'))) (hk:(Nat.beq (ca (at_ c p)) 1 && uv n (at_ c (0::p)))=true):wpA cx n m (at_ c p) Q T h:=wO hk hw
def zN (g:Tm->Tm) (f:af->af) (hw:wpA cx n m d Q (g T0) (f h0)) (hk:(bj l,ic (sl (g T0)) S.1,S.2)=(false,g T0,f h0)):bS cx l S (mm T0 h0 (fun T h=>cM (wpA cx n m d Q) Q' .normal T h)):=vN _ _ hk hw
def zR (j:Nat) (g:Tm->Tm) (f:af->af) (hw:wpA cx n m d Q (g T0) (f h0)) (hk:((j4 cx.P cx.G j l S).isSome,bj (l.drop j),ic (sl (g T0)) (rS (j4 cx.P cx.G j l S)).1,(rS (j4 cx.P cx.G j l S)).2)=(true,false,g T0,f h0)) :
 bS cx l S (mm T0 h0 (fun T h=>cM (wpA cx n m d Q) Q' .normal T h)):=vR j _ _ hk hw
def zs (e:Nat) {x y:Bool} (he:x=y) (hw:bS cx l (KF S e (.bool y)) (mm T0 h0 (fun T h=>cM (wpA cx n m d Q) Q' .normal T h))) (hk:Tm.get S.1 e=.bool x):bS cx l S (mm T0 h0 (fun T h=>cM (wpA cx n m d Q) Q' .normal T h)):=vs e he hk hw
def zm (es:List Nat) {x y:Bool} (he:x=y) (hw:bS cx l (PW S (.bool y) es) (mm T0 h0 (fun T h=>cM (wpA cx n m d Q) Q' .normal T h))) (hk:(es.map fun e=>Tm.get S.1 e)=es.map fun _=>.bool x):bS cx l S (mm T0 h0 (fun T h=>cM (wpA cx n m d Q) Q' .normal T h)):=qm es he hw hk
theorem zL (o:Nat) (f:af->af) (hh:db h [o]=f h) {d:Code} (hw:wpA cx n m d Q T (f h)):wpA cx n m d Q T h:=S5 o _ hh hw
theorem zD (hm:cx.P.follows .mixedOrders=true) (hk:Kn n (at_ c p)=true) (hq:u6 Q)
 (hw:bdr cx (bOf n (at_ c p)) (h.length,T,h++hP (nAl (qJ (at_ c p)).toList),[]) (fun rs T' h'=>mC (qJ (at_ c p)) rs=true/\mm T h (fun T h=>Q .normal T h) T' h')):wpA cx n m (at_ c p) Q T h:=WI hm hk hq (Q1 hw)
def zE (g:Tm->Tm) (f:af->af) (hw:wpA cx n m d Q (g T0) (f h0)) (hk:(ic (sl (g T0)) T,h)=(g T0,f h0)):mm T0 h0 (fun T h=>cM (wpA cx n m d Q) Q' .normal T h) T h:=wZ _ _ hk hw
theorem hT {α:Sort _} {a g b:α} (hg:g=b) (ha:a=b):a=g:=ha.trans hg.symm
theorem pb {T:Tm}:∀ {S:Tm},ic (sl S) T=S->LeL T S
 | [],_=>trivial
 | (k,v)::S,e=>by
  simp only [sl,ic,List.cons.injEq,Prod.mk.injEq,true_and] at e;exact ⟨e.1,pb e.2⟩
theorem fg {S:Tm} {g:af} (hk:(ic (sl S) T,Nat.ble m g.length)=(S,true)) (hh:h.take g.length=g) (hb:nG g.length S) (ho:g.all (am.belO g.length)=true):gt m T h S g:=by
 simp only [Prod.mk.injEq] at hk;exact ⟨pb hk.1,hb,Nat.le_of_ble_eq_true hk.2,hh,ho⟩
theorem qP {f:FuncId} {args:List aa} {v:aa} (hq:ae cx f args v) (hf:aN [] args=args) (hb:aC 0 args=true) (hw:aF args=[])
 (hk:(bj l,bt S.1 (hdB l).g,(aop cx.P S.2 (bU cx S) (hdB l).op).isNone,aI (bU cx S) (hdB l).op)=(true,some true,true,some (f,args)))
 (hn:bS cx l.tail (FZ S (hdB l).dst v) K):bS cx l S K:=by
 simp only [Prod.mk.injEq,Option.isNone_iff_eq_none] at hk;exact l1 hk.1 hk.2.1 hk.2.2.1 hk.2.2.2 hq ((cV _ _ _ hw).trans hf) hb hw hn
theorem qQ {f:FuncId} {args:List aa} {v:aa} (hq:ae cx f args v) (hf:aN [] args=args) (hb:aC 0 args=true) (hw:aF args=[])
 (hk:(bj l,bt s.2.1 (hdB l).g,fv (hdB l).op,(aop cx.P s.2.2.1 (aev cx.G s.2.1) (hdB l).op).isNone,aI (aev cx.G s.2.1) (hdB l).op)=(true,some true,false,true,some (f,args)))
 (hn:bdr cx l.tail (O4 s (hdB l) v) KD):bdr cx l s KD:=by
 simp only [Prod.mk.injEq,Option.isNone_iff_eq_none] at hk;exact Qj hk.1 hk.2.1 hk.2.2.1 hk.2.2.2.1 hk.2.2.2.2 hq (fun g=>(cV _ _ _ hw).trans hf) hb hw hn
def cA (S:RSt) (d:Option Nat) (v:aa) (hs':af) (k:Nat):RSt:=(ci S.1 d v,hs'++S.2.drop k)
theorem qA {f:FuncId} {args:List aa} {hs hs':af} {v:aa} (hq:av cx f args hs fun v' h'=>v'=v/\h'=hs')
 (hb:aC hs.length args=true) (hbo:hs.all (am.belO hs.length)=true) (hl:hs'.length=hs.length) (hv:v.bel hs.length=true) (hbo':hs'.all (am.belO hs.length)=true)
 (hk:(bj l,bt S.1 (hdB l).g,(aop cx.P S.2 (bU cx S) (hdB l).op).isNone,aI (bU cx S) (hdB l).op,S.2.take hs.length,jE (S.2.drop hs.length))=(true,some true,true,some (f,args),hs,true))
 (hn:bS cx l.tail (cA S (hdB l).dst v hs' hs.length) K):bS cx l S K:=by
 simp only [Prod.mk.injEq,Option.isNone_iff_eq_none] at hk;refine PN hk.1 hk.2.1 hk.2.2.1 hk.2.2.2.1 (rest:=S.2.drop hs.length) ?_ hq hb hbo hl hv hbo' hk.2.2.2.2.2 hn;have:=List.take_append_drop hs.length S.2;rw [hk.2.2.2.2.1] at this;exact this.symm
theorem qH {f:FuncId} {args:List aa} {v:aa} {H0 h':af} (hq:av cx f args H0 fun v' h''=>v'=v/\h''=h')
 (hk:(bj l,bt S.1 (hdB l).g,(aop cx.P S.2 (bU cx S) (hdB l).op).isNone,aI (bU cx S) (hdB l).op,S.2)=(true,some true,true,some (f,args),H0))
 (hn:bS cx l.tail (ci S.1 (hdB l).dst v,h') K):bS cx l S K:=by
 simp only [Prod.mk.injEq,Option.isNone_iff_eq_none] at hk;exact lH H0 hk.1 hk.2.1 hk.2.2.1 hk.2.2.2.1 hk.2.2.2.2 hq hn
end
end Go.Proofs.YtcpklndelobigaaGreatDoor.Abs
