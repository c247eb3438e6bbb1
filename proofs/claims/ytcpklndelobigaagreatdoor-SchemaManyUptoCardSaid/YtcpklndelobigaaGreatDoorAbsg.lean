/- The abstract layer, part 41: a call upon the whole heap in a drawn region. No condition. -/
import Derived.Test.YtcpklndelobigaaGreatDoorAbsf
set_option linter.all false
namespace Go.Proofs.YtcpklndelobigaaGreatDoor.Abs
theorem zh {cx:Cx} {l:List BOp} {KD:List (List Nat×List Nat)→Tm→ae→Prop} {s:DSt} {f:FuncId} {args:List aa} {h':ae} {v:aa} (L:List Nat) (H0:ae) (hc:bt l=true) (hg:bB s.2.1 (hdB l).g=some true) (hal:d2 (hdB l).op=false) (ho:aop cx.P s.2.2.1 (aev cx.G s.2.1) (hdB l).op=none) (ha:aK (aev cx.G s.2.1) (hdB l).op=some (f,args))
 (hS:s.2.2.1=H0) (hq:aL cx f args H0 fun v' h''=>v'=v∧h''=h') (hfr:∀ o,o∉L→h'[o]?=H0[o]?) (hne:L.isEmpty=false)
 (hk:bdr cx l.tail (s.1,bK s.2.1 (hdB l).dst v,h',s.2.2.2++[(L,L)]) KD):bdr cx l s KD:=by
 subst hS
 refine yU (h':=h') hc hg hal ho ha ⟨hfr,hq,?_⟩ hk
 intro e
 rw [e] at hne
 simp at hne
end Go.Proofs.YtcpklndelobigaaGreatDoor.Abs
namespace Go.Proofs.YtcpklndelobigaaGreatDoor.Abs
def zB (ev:Operand→aa):Op→Option (Nat×aa)
 | .call { callee:=.builtin .clear,args,argTypes }=>match argTypes.toList,fb ev args.toList with
  | [t],[x]=>some (t,x)
  | _,_=>none
 | _=>none
section
variable {cx:Cx} {bl:List BOp} {K:Tm→ae→Prop} {S:RSt}
theorem uK {P:Program} {h:ae} {ev:Operand→aa} {op:Op} {t:Nat} {x:aa} {h':ae} (hv:zB ev op=some (t,x)) (hc:kf P h t x=some h'):aop P h ev op=none∧aK ev op=none∧anx P h ev op=some [(.tup [],h')]:=by
 unfold zB at hv
 split at hv <;> try (simp at hv;done)
 rename_i args ats
 split at hv <;> simp at hv
 rename_i e1 e2
 obtain ⟨rfl,rfl⟩:=hv
 refine ⟨?_,rfl,?_⟩
 · simp only [aop,cp]
 · simp only [anx,e1,e2,zp,hc,Option.map_some]
end
section
variable {P:Program} {ev:Operand→aa} {op:Op} {h:ae}
end
end Go.Proofs.YtcpklndelobigaaGreatDoor.Abs
namespace Go.Proofs.YtcpklndelobigaaGreatDoor.Abs
section
variable {cx:Cx} {n m:Nat} {c:Code} {p:List Nat} {Q:ca} {T:Tm} {h:ae}
theorem sY {σ:Type} (S:σ→Tm) (H:σ→ae) (I:σ→Prop) (hk:bD (at_ c p)=1)
 (h1:wpA cx n m (at_ c (0::p)) (cu (fun T' h'=>∃ s',I s'∧eo m T' h' (S s') (H s')) Q) T h) (h2:∀ s,I s→wpA cx n m (at_ c (1::p)) Q (S s) (H s)):wpA cx n m (at_ c p) Q T h:=by
 refine dN hk (gV h1 ?_)
 intro e T' h' q
 cases e with
 | normal=>obtain ⟨s,hs,hf⟩:=q;exact gF hf (h2 s hs)
 | _=>exact q
theorem dK {σ:Type} {S:σ→Tm} {H:σ→ae} {I:σ→Prop} {Q:ca}:ol (cu (fun T' h'=>∃ s',I s'∧eo m T' h' (S s') (H s')) Q):=fun _ _ _ he ⟨s',h1,h3⟩=>⟨s',h1,h3.ext he⟩
end
end Go.Proofs.YtcpklndelobigaaGreatDoor.Abs
namespace Go.Proofs.YtcpklndelobigaaGreatDoor.Abs
section
variable {P:Program} {ev:Operand→aa} {op:Op} {h:ae}
end
section
variable {cx:Cx} {n m:Nat} {c:Code} {p:List Nat} {Q:ca} {T:Tm} {h:ae}
def Wk (cx:Cx) (n m:Nat) (K:Tm→ae→Prop) (T:Tm) (h:ae):Prop:=∀ (d:Code) (Q:ca),(∀ T' h',K T' h'→wpA cx n m d Q T' h')→wpA cx n m d Q T h
theorem ov {σ:Type} (S:σ→Tm) (H:σ→ae) (I:σ→Prop) (hk:bD (at_ c p)=1)
 (h1:wpA cx n m (at_ c (0::p)) (cu (Wk cx n m (fun T' h'=>∃ s',I s'∧eo m T' h' (S s') (H s'))) Q) T h) (h2:∀ s,I s→wpA cx n m (at_ c (1::p)) Q (S s) (H s)):wpA cx n m (at_ c p) Q T h:=by
 refine dN hk (gV h1 ?_)
 intro e T' h' q
 cases e with
 | normal=>exact q _ _ fun T1 g1 ⟨s,hs,hf⟩=>gF hf (h2 s hs)
 | _=>exact q
theorem vD {K:Tm→ae→Prop} {Q:ca}:ol (cu (Wk cx n m K) Q):=fun _ _ _ he hw d Q hk=>ou he (hw d Q hk)
end
end Go.Proofs.YtcpklndelobigaaGreatDoor.Abs
namespace Go.Proofs.YtcpklndelobigaaGreatDoor.Abs
section
variable {cx:Cx} {n m:Nat} {d:Code} {Q:ca} {T:Tm} {h:ae}
theorem Rel.arrCell {E:Ent} {B:jW} {ρ ρ1:Ren} {h1:ae} {a:Act} {w:World} {b i j sz fr:Nat} {es cs:List aa} {y y':aa} (hr:Rel cx E B n ρ T h a w) (hr1:Rel cx E B n ρ1 T h1 a w) (ho:h[b]?=some (.arr sz es fr)) (ho1:h1[b]?=some (.arr sz es fr)) (le:Le ρ h w ρ1 h1 w)
 (hi:es[i]?=some (.agg cs)) (hy:cs[j]?=some y) (hsp:∀ v,VR ρ h w y v→VR ρ1 h1 w y' v) :
 ∃ ρ',Rel cx E B n ρ' T (h1.set b (.arr sz (es.set i (.agg (cs.set j y'))) fr)) a w:=by
 have hlt:=(List.getElem?_eq_some_iff.1 ho1).1
 have hil:=(List.getElem?_eq_some_iff.1 hi).1
 have hst:=bC (h':=h1.set b (.arr sz (es.set i (.agg (cs.set j y'))) fr)) (w':=w) hr1.wf hr1.fr b (.arr sz (es.set i (.agg (cs.set j y'))) fr) (ρ1.loc b) ρ1.I (by rw [List.getElem?_set_self hlt]) (fun o' ho'=>aM _ _ _ _ ho')
  rfl rfl rfl (Nat.le_refl _) (fun _ _ _=>rfl) (fun x hx=>by rw [ho1] at hx;cases hx;exact ⟨Nat.le_of_eq (List.length_set ..).symm,fun _=>⟨rfl,rfl⟩⟩)
  (fun b j hI=>⟨hI,rfl⟩) (fun b j hI=>.inl hI)
  (fun hb=>.inr ⟨_,ho1,hb,rfl⟩) (fun j hb hI=>hr1.wf.imm b (.arr sz es fr) j ho1 hb hI)
  (fun o' m' left _ hi=>by
   rintro rfl
   obtain ⟨_,_,_,_,es0,_,_,h2,_⟩:=hr1.wf.obj o' _ hi
   rw [ho1] at h2;cases h2)
  (fun le2=>by
   obtain ⟨q1,q2,q3,q4,q5⟩:=hr1.wf.obj b _ ho1
   obtain ⟨f1,f2,f3,f4,f5⟩:=hr.wf.obj b _ ho
   have hloc:ρ1.loc b=ρ.loc b:=by
    obtain ⟨x',r1,r2⟩:=le.obj b _ ho
    rw [ho1] at r1;cases r1
    exact (r2.2 rfl).2
   refine ⟨by rw [List.length_set];exact q1,by rw [List.length_set];exact q2,q3,?_,?_⟩
   · intro k x hx
     by_cases e:k=i
     · subst e
       rw [List.getElem?_set_self hil] at hx
       cases hx
       have:=q4 k _ hi
       simpa [aa.cells] using this
     · rw [List.getElem?_set_ne (fun q=>e q.symm)] at hx
       exact q4 k x hx
   · intro hc
     obtain ⟨c,t,g1,g2,g3⟩:=q5 hc
     obtain ⟨c',t',k1,k2,k3⟩:=f5 (by rw [← hloc];exact hc)
     rw [← hloc,g1] at k1
     cases k1
     refine ⟨c,t,g1,g2,fun k x j' y2 v hx hy2 hv=>?_⟩
     by_cases e:k=i
     · subst e
       rw [List.getElem?_set_self hil] at hx
       cases hx
       have hy3:(cs.set j y')[j']?=some y2:=hy2
       by_cases e2:j'=j
       · subst e2
         rw [List.getElem?_set_self (List.getElem?_eq_some_iff.1 hy).1] at hy3
         cases hy3
         exact (hsp v (k3 k (.agg cs) j' y v hi hy (by rw [← hloc];exact hv))).mono le2
       · rw [List.getElem?_set_ne (fun q=>e2 q.symm)] at hy3
         exact (g3 k (.agg cs) j' y2 v hi hy3 hv).mono le2
     · rw [List.getElem?_set_ne (fun q=>e q.symm)] at hx
       exact (g3 k x j' y2 v hx hy2 hv).mono le2)
 exact ⟨_,hr1.step hst.1 hst.2.1 hst.2.2⟩
theorem yW (b i j sz':Nat) {sz fr:Nat} {es cs:List aa} (es':List aa) (hsz:0<sz') (hb:h[b]?=some (.arr sz es fr)) (hi:es[i]?=some (.agg cs)) (hj:cs[j]?=some (.full [])) (he:es.set i (.agg (cs.set j (.own h.length 0 0)))=es') (hk:wpA cx n m d Q T (h.set b (.arr sz es' fr)++[.arr sz' [] 0])):wpA cx n m d Q T h:=by
 intro E B ρ a w hm hr
 obtain ⟨ρ1,r1,r2,r3⟩:=hr.ghost sz' hsz
 have hlt:=(List.getElem?_eq_some_iff.1 hb).1
 obtain ⟨ρ2,q1⟩:=Rel.arrCell hr r1 hb (by rw [List.getElem?_append_left hlt];exact hb) r2 hi hj (y':=.own h.length 0 0) (fun v hv=>by cases hv;exact r3 _)
 rw [he,List.set_append_left _ _ hlt] at q1
 exact hk E B ρ2 a w hm q1
theorem yB (b i j o:Nat) {sz fr sz2 fr2:Nat} {es cs es2:List aa} {off len:Nat} (es' es3:List aa) (hbo:b≠o) (hb:h[b]?=some (.arr sz es fr)) (hi:es[i]?=some (.agg cs)) (hj:cs[j]?=some (.own o off len)) (ho:h[o]?=some (.arr sz2 es2 fr2)) (htip:off+len=es2.length) (hes:es2.drop off=es3) (he:es.set i (.agg (cs.set j (.imm es3)))=es')
 (hk:wpA cx n m d Q T ((h.set o (.arr sz2 es2 es2.length)).set b (.arr sz es' fr))):wpA cx n m d Q T h:=by
 intro E B ρ a w hm hr
 obtain ⟨ρ1,g1,g2,g3,g4⟩:=eN hr.wf hr.fr ho
 obtain ⟨ρ2,q1⟩:=Rel.arrCell hr (hr.step g1 g2 g3) hb (by rw [aM _ _ _ _ hbo];exact hb) g2 hi hj (y':=.imm es3) (fun v hv=>by rw [← hes];exact g4 off len v htip hv)
 rw [he] at q1
 exact hk E B ρ2 a w hm q1
end
end Go.Proofs.YtcpklndelobigaaGreatDoor.Abs
