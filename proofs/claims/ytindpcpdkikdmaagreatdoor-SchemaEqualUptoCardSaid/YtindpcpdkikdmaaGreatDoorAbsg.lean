/- The abstract layer, part 41: a call upon the whole heap in a drawn region. No condition. -/
import Derived.Test.YtindpcpdkikdmaaGreatDoorAbsf
set_option linter.all false
namespace Go.Proofs.YtindpcpdkikdmaaGreatDoor.Abs
theorem dcallH {cx:Cx} {l:List BOp} {KD:List (List Nat×List Nat)→Tm→AHeap→Prop} {s:DSt} {f:FuncId} {args:List AVal} {h':AHeap} {v:AVal} (L:List Nat) (H0:AHeap) (hc:isCons l=true) (hg:bguard s.2.1 (hdB l).g=some true) (hal:isAl (hdB l).op=false) (ho:aop cx.P s.2.2.1 (aev cx.G s.2.1) (hdB l).op=none) (ha:acallee (aev cx.G s.2.1) (hdB l).op=some (f,args))
 (hS:s.2.2.1=H0) (hq:CallsA cx f args H0 fun v' h''=>v'=v∧h''=h') (hfr:∀ o,o∉L→h'[o]?=H0[o]?) (hne:L.isEmpty=false)
 (hk:bdr cx l.tail (s.1,aput s.2.1 (hdB l).dst v,h',s.2.2.2++[(L,L)]) KD):bdr cx l s KD:=by
 subst hS
 refine dcall (h':=h') hc hg hal ho ha ⟨hfr,hq,?_⟩ hk
 intro e
 rw [e] at hne
 simp at hne
end Go.Proofs.YtindpcpdkikdmaaGreatDoor.Abs
namespace Go.Proofs.YtindpcpdkikdmaaGreatDoor.Abs
def vClr (ev:Operand→AVal):Op→Option (Nat×AVal)
 | .call { callee:=.builtin .clear,args,argTypes }=>match argTypes.toList,aevs ev args.toList with
  | [t],[x]=>some (t,x)
  | _,_=>none
 | _=>none
section
variable {cx:Cx} {bl:List BOp} {K:Tm→AHeap→Prop} {S:RSt}
theorem vClr_spec {P:Program} {h:AHeap} {ev:Operand→AVal} {op:Op} {t:Nat} {x:AVal} {h':AHeap} (hv:vClr ev op=some (t,x)) (hc:aclear P h t x=some h'):aop P h ev op=none∧acallee ev op=none∧anx P h ev op=some [(.tup [],h')]:=by
 unfold vClr at hv
 split at hv <;> try (simp at hv;done)
 rename_i args ats
 split at hv <;> simp at hv
 rename_i e1 e2
 obtain ⟨rfl,rfl⟩:=hv
 refine ⟨?_,rfl,?_⟩
 · simp only [aop,abuiltin]
 · simp only [anx,e1,e2,anxB,hc,Option.map_some]
theorem vclear {t e o off len a b a' b' fr:Nat} {es:List AVal} {z z':AVal} {k':TyK} {H':AHeap} (hc:isCons bl=true) (hg:bguard S.1 (hdB bl).g=some true) (hv:vClr (aev cx.G S.1) (hdB bl).op=some (t,.own o off len)) (ht:tyOf cx.P t=some ⟨.slice e,a,b,z⟩) (he:tyOf cx.P e=some ⟨k',a',b',z'⟩) (ho:S.2[o]?=some (.arr 1 es fr))
 (hl:off+len=es.length) (hf:fr≤off) (hz:z'.cells.length=1∧z'.cells.all AVal.cellOk=true) (hH:S.2.set o (.arr 1 (es.take off++List.replicate len .any) fr)=H')
 (hk:bS cx bl.tail (aput S.1 (hdB bl).dst (.tup []),H') K):bS cx bl S K:=by
 have hcl:aclear cx.P S.2 t (.own o off len)=some H':=by
  simp only [aclear,ht,he,ho]
  rw [if_pos ⟨hl,hf,hz.1,hz.2⟩,← hH];rfl
 obtain ⟨g1,g2,g3⟩:=vClr_spec hv hcl
 refine vnext hc hg (L:=[(.tup [],H')]) g1 g2 g3 ?_
 intro r hr;rw [List.mem_singleton] at hr;subst hr;exact hk
end
section
variable {P:Program} {ev:Operand→AVal} {op:Op} {h:AHeap}
theorem o_slc0 {t e o len a b a' b' sz fr:Nat} {es:List AVal} {z z':AVal} {k':TyK} {k:IntKind} (hv:vSlc ev op=some (t,.own o 0 len,some (.int k 0),none)) (ht:tyOf P t=some ⟨.slice e,a,b,z⟩) (he:tyOf P e=some ⟨k',a',b',z'⟩) (ho:h[o]?=some (.arr sz es fr)) (hl:len=es.length) (hsz:sz=a') :
 aop P h ev op=some (.own o 0 len,h):=by
 rw [vSlc_spec hv]
 have hb:abounds len (some (.int k 0)) none=some (0,len):=by
  unfold abounds
  simp
 simp only [aslice,ht,he,ho]
 rw [if_pos ⟨by omega,hsz⟩,hb]
 rfl
theorem o_slcnil {t e o len a b a' b' sz fr:Nat} {es:List AVal} {z z':AVal} {k':TyK} {k:IntKind} (hv:vSlc ev op=some (t,.own o 0 len,none,some (.int k 0))) (ht:tyOf P t=some ⟨.slice e,a,b,z⟩) (he:tyOf P e=some ⟨k',a',b',z'⟩) (ho:h[o]?=some (.arr sz es fr)) (hl:len=es.length) (hsz:sz=a') :
 aop P h ev op=some (.imm [],h):=by
 rw [vSlc_spec hv]
 have hb:abounds len none (some (.int k 0))=some (0,0):=by
  unfold abounds
  simp
 simp only [aslice,ht,he,ho]
 rw [if_pos ⟨by omega,hsz⟩,hb]
 rfl
end
end Go.Proofs.YtindpcpdkikdmaaGreatDoor.Abs
namespace Go.Proofs.YtindpcpdkikdmaaGreatDoor.Abs
section
variable {cx:Cx} {n m:Nat} {c:Code} {p:List Nat} {Q:APost} {T:Tm} {h:AHeap}
theorem wJoin {σ:Type} (S:σ→Tm) (H:σ→AHeap) (I:σ→Prop) (hk:kindOf (at_ c p)=1)
 (h1:wpA cx n m (at_ c (0::p)) (AThen (fun T' h'=>∃ s',I s'∧Forget m T' h' (S s') (H s')) Q) T h) (h2:∀ s,I s→wpA cx n m (at_ c (1::p)) Q (S s) (H s)):wpA cx n m (at_ c p) Q T h:=by
 refine wSeq hk (wpA_mono h1 ?_)
 intro e T' h' q
 cases e with
 | normal=>obtain ⟨s,hs,hf⟩:=q;exact wpA_forgetS hf (h2 s hs)
 | _=>exact q
theorem extJoin {σ:Type} {S:σ→Tm} {H:σ→AHeap} {I:σ→Prop} {Q:APost}:ExtQ (AThen (fun T' h'=>∃ s',I s'∧Forget m T' h' (S s') (H s')) Q):=fun _ _ _ he ⟨s',h1,h3⟩=>⟨s',h1,h3.ext he⟩
end
end Go.Proofs.YtindpcpdkikdmaaGreatDoor.Abs
namespace Go.Proofs.YtindpcpdkikdmaaGreatDoor.Abs
section
variable {P:Program} {ev:Operand→AVal} {op:Op} {h:AHeap}
theorem o_stpart {t:Nat} {o idx off k sz fr:Nat} {es:List AVal} {x y:AVal} (y':AVal) {i:TyI} (hv:vStore ev op=some (t,.pown o idx off k,x)) (ho:h[o]?=some (.arr sz es fr)) (hl:es.length=k) (hf:fr≤idx) (hy:es[idx]?=some y) (ht:tyOf P t=some i)
 (hok:x.cells.length=i.size∧x.cells.all AVal.cellOk=true) (hb:off+i.size≤y.cells.length) (hw:y.withCells (splice y.cells off x.cells)=some y'):aop P h ev op=some (.any,h.set o (.arr sz (es.set idx y') fr)):=by
 unfold vStore at hv
 split at hv <;> simp at hv
 obtain ⟨rfl,h2,h3⟩:=hv
 simp only [aop,h2,h3,astore,ht,ho]
 rw [if_pos hok]
 simp only [hl,hf,hy,hb,hw,and_self,if_true,put2]
def vFld (ev:Operand→AVal):Op→Option (Nat×AVal×Nat)
 | .fieldAddr s x f=>some (s,ev x,f)
 | _=>none
def fldOff (P:Program) (s:TypeId) (f:Nat):Option Nat :=
 match tyOf P s with
 | some i=>match i.k with
  | .struct fs=>match fs[f]? with
   | some (off,ft)=>match tyOf P ft with
    | some j=>if j.size=0 then none else some off
    | none=>none
   | none=>none
  | _=>none
 | none=>none
theorem afield_off {s f d:Nat} (hd:fldOff P s f=some d) (x:AVal):afieldAddr P h s x f=ashift h x d:=by
 unfold fldOff at hd
 unfold afieldAddr
 split at hd <;> try (simp at hd;done)
 split at hd <;> try (simp at hd;done)
 split at hd <;> try (simp at hd;done)
 split at hd <;> try (simp at hd;done)
 split at hd <;> try (simp at hd;done)
 obtain rfl:=Option.some.inj hd
 simp only [*,if_false]
theorem o_fldown {s f o idx b n sz fr d:Nat} {es:List AVal} (hv:vFld ev op=some (s,.pown o idx b n,f)) (ho:h[o]?=some (.arr sz es fr)) (hl:es.length=n) (hd:fldOff P s f=some d):aop P h ev op=some (.pown o idx (b+d) n,h):=by
 unfold vFld at hv
 split at hv <;> simp at hv
 obtain ⟨rfl,h2,rfl⟩:=hv
 simp only [aop,h2,afield_off hd,ashift,ho,hl,if_true,put1]
theorem o_stmapp {α:Type} {enc:α→AVal} {l:List α} (X:α) (d:α) {t:Nat} {o idx off k sz:Nat} {x:AVal} {i:TyI} (hv:vStore ev op=some (t,.pown o idx off k,x)) (ho:h[o]?=some (.arr sz (l.map enc) 0)) (hl:l.length=k) (hi:idx<l.length) (ht:tyOf P t=some i)
 (hok:x.cells.length=i.size∧x.cells.all AVal.cellOk=true) (hb:Nat.ble (off+i.size) (enc (l.getD idx d)).cells.length=true) (hw:(enc (l.getD idx d)).withCells (splice (enc (l.getD idx d)).cells off x.cells)=some (enc X)):aop P h ev op=some (.any,h.set o (.arr sz ((l.set idx X).map enc) 0)):=by
 have hy:(l.map enc)[idx]?=some (enc (l.getD idx d)):=by
  rw [List.getElem?_map,List.getElem?_eq_getElem hi,List.getD_eq_getElem?_getD,List.getElem?_eq_getElem hi];rfl
 rw [o_stpart (enc X) hv ho (by simpa using hl) (Nat.zero_le _) hy ht hok (Nat.le_of_ble_eq_true hb) hw,List.map_set]
theorem o_stmapz {α:Type} {enc:α→AVal} {l:List α} (y':AVal) (d:α) {t:Nat} {o idx off k sz:Nat} {x:AVal} {i:TyI} (hv:vStore ev op=some (t,.pown o idx off k,x)) (ho:h[o]?=some (.arr sz (l.map enc) 0)) (hl:l.length=k) (hi:idx<l.length) (ht:tyOf P t=some i)
 (hok:x.cells.length=i.size∧x.cells.all AVal.cellOk=true) (hb:Nat.ble (off+i.size) (enc (l.getD idx d)).cells.length=true) (hw:(enc (l.getD idx d)).withCells (splice (enc (l.getD idx d)).cells off x.cells)=some y'):aop P h ev op=some (.any,h.set o (.arr sz ((l.map enc).set idx y') 0)):=by
 have hy:(l.map enc)[idx]?=some (enc (l.getD idx d)):=by
  rw [List.getElem?_map,List.getElem?_eq_getElem hi,List.getD_eq_getElem?_getD,List.getElem?_eq_getElem hi];rfl
 exact o_stpart y' hv ho (by simpa using hl) (Nat.zero_le _) hy ht hok (Nat.le_of_ble_eq_true hb) hw
theorem o_ixmapF {α:Type} {t e:Nat} {enc:α→AVal} {l:List α} {es:List AVal} {k:IntKind} {i:Int} {a b a' b':Nat} {z z':AVal} {ek:TyK} (d:α) (hv:vIxA ev op=some (t,.full es,.int k i)) (hes:es=l.map enc) (ht:tyOf P t=some ⟨.slice e,a,b,z⟩) (he:tyOf P e=some ⟨ek,a',b',z'⟩)
 (hs:∀ x,(enc x).cells.length=a') (h0:0≤i) (h1:i<l.length):aop P h ev op=some (.pimm (enc (l.getD i.toNat d)).cells 0,h):=by
 subst hes
 rw [vIxA_spec hv]
 have hlt:i.toNat<l.length:=by omega
 have hc:0≤i∧i<((l.map enc).length:Nat):=by rw [List.length_map];exact ⟨h0,h1⟩
 simp only [aindexAddr,ht,he,if_pos hc,List.getElem?_map,getD_of_lt l i.toNat d hlt,Option.map_some,hs,if_true,put1]
end
section
variable {cx:Cx} {n m:Nat} {c:Code} {p:List Nat} {Q:APost} {T:Tm} {h:AHeap}
def Wk (cx:Cx) (n m:Nat) (K:Tm→AHeap→Prop) (T:Tm) (h:AHeap):Prop:=∀ (d:Code) (Q:APost),(∀ T' h',K T' h'→wpA cx n m d Q T' h')→wpA cx n m d Q T h
theorem wJoinK {σ:Type} (S:σ→Tm) (H:σ→AHeap) (I:σ→Prop) (hk:kindOf (at_ c p)=1)
 (h1:wpA cx n m (at_ c (0::p)) (AThen (Wk cx n m (fun T' h'=>∃ s',I s'∧Forget m T' h' (S s') (H s'))) Q) T h) (h2:∀ s,I s→wpA cx n m (at_ c (1::p)) Q (S s) (H s)):wpA cx n m (at_ c p) Q T h:=by
 refine wSeq hk (wpA_mono h1 ?_)
 intro e T' h' q
 cases e with
 | normal=>exact q _ _ fun T1 g1 ⟨s,hs,hf⟩=>wpA_forgetS hf (h2 s hs)
 | _=>exact q
theorem extJoinK {K:Tm→AHeap→Prop} {Q:APost}:ExtQ (AThen (Wk cx n m K) Q):=fun _ _ _ he hw d Q hk=>wpA_ext he (hw d Q hk)
end
theorem frzL_set (h:AHeap) (l:List AVal) (i:Nat) (y:AVal):frzL h (l.set i y)=(frzL h l).set i (y.frz h):=by rw [frzL_map,frzL_map,List.map_set]
theorem ownsL_set {l:List AVal} {i:Nat} {y:AVal} (h1:ownsL l=[]) (h2:y.owns=[]):ownsL (l.set i y)=[]:=by
 induction l generalizing i with
 | nil=>rfl
 | cons x l ih =>
  simp only [ownsL,List.append_eq_nil_iff] at h1
  cases i with
  | zero=>simp only [List.set_cons_zero,ownsL,h2,h1.2,List.nil_append]
  | succ i=>simp only [List.set_cons_succ,ownsL,h1.1,ih h1.2,List.nil_append]
end Go.Proofs.YtindpcpdkikdmaaGreatDoor.Abs
