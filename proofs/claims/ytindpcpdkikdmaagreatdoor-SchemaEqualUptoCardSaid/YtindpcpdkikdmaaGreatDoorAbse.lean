/- Rules for calls on objects that lie anywhere. No condition. -/
import Derived.Test.YtindpcpdkikdmaaGreatDoorAbsd
set_option linter.all false
namespace Go.Proofs.YtindpcpdkikdmaaGreatDoor.Abs
theorem o_stmapx {P:Program} {ev:Operand→AVal} {op:Op} {h:AHeap} {α:Type} {enc:α→AVal} {l:List α} {X:α} {t:Nat} {o idx k sz:Nat} {x z:AVal} {i:TyI} (hv:vStore ev op=some (t,.pown o idx 0 k,x)) (hx:x=enc X) (ho:h[o]?=some (.arr sz (l.map enc++[z]) 0)) (hl:(l.map enc++[z]).length=k) (hi:idx=l.length) (ht:tyOf P t=some i)
 (hok:∀ q,(enc q).cells.length=i.size∧(enc q).cells.all AVal.cellOk=true) (hz:z.cells.length=i.size) (hw:z.withCells (enc X).cells=some (enc X)):aop P h ev op=some (.any,h.set o (.arr sz ((l++[X]).map enc) 0)):=by
 subst hi
 have hy:(l.map enc++[z])[l.length]?=some z:=by simp
 rw [o_stown hv ho hl (Nat.zero_le _) hy ht (by rw [hx];exact hok X) rfl hz (by rw [hx];exact hw),hx]
 simp
section
variable {cx:Cx} {l:List BOp} {S:Tm×AHeap} {K:Tm→AHeap→Prop}
theorem vcallH {f:FuncId} {args:List AVal} {v:AVal} {h':AHeap} (H0:AHeap) (hc:isCons l=true) (hg:bguard S.1 (hdB l).g=some true) (ho:aop cx.P S.2 (aev cx.G S.1) (hdB l).op=none) (ha:acallee (aev cx.G S.1) (hdB l).op=some (f,args)) (hS:S.2=H0) (hq:CallsA cx f args H0 fun v' h''=>v'=v∧h''=h')
 (hk:bS cx l.tail (aput S.1 (hdB l).dst v,h') K):bS cx l S K:=by
 subst hS
 exact vcall hc hg ho ha hq (by rintro v' h'' ⟨rfl,rfl⟩;exact hk)
end
end Go.Proofs.YtindpcpdkikdmaaGreatDoor.Abs
namespace Go.Proofs.YtindpcpdkikdmaaGreatDoor.Abs
open Go
section
variable {cx:Cx} {h:AHeap}
theorem CallsA_ownB {f:FuncId} {args:List AVal} {Q:AVal→AHeap→Prop} (b i sz:Nat) {cs:List AVal} (cs':List AVal) (hsz:0<sz) (hb:h[b]?=some (.box cs)) (hi:cs[i]?=some (.full [])) (he:cs.set i (.own h.length 0 0)=cs')
 (hc:CallsA cx f args (h.set b (.box cs')++[.arr sz [] 0]) Q):CallsA cx f args h Q:=by
 refine ⟨hc.1,fun ρ w cargs wf hg hv=>?_⟩
 have hr:Rel cx ⟨w,ρ.I,lentOf ρ h⟩ ⟨ρ,h,w⟩ 0 ρ [] h { tmps:=#[],defers:=[] } w:=⟨fun t=>.any _,rfl,rfl,hg,wf,Fr.refl ρ h w,Le.refl _ _ _⟩
 obtain ⟨ρ1,r1,r2,r3⟩:=hr.ghost sz hsz
 have hlt:=(List.getElem?_eq_some_iff.1 hb).1
 obtain ⟨ρ2,q1⟩:=Rel.box hr r1 hb (by rw [List.getElem?_append_left hlt];exact hb) r2 hi (y':=.own h.length 0 0) (fun v hv=>by cases hv;exact r3 _)
 rw [he,List.set_append_left _ _ hlt] at q1
 have le:=q1.le
 refine (hc.2 ρ2 w cargs q1.wf q1.glob ⟨hv.1,fun k x v hx hy=>(hv.2 k x v hx hy).mono le⟩).mono ?_
 rintro e w' ⟨ρ',cv,v,h',rfl,hq,hvv,wf',le',fr'⟩
 exact ⟨ρ',cv,v,h',rfl,hq,hvv,wf',le.trans le',q1.fr.comp fr'⟩
theorem CallsA_at {f:FuncId} {args0 args:List AVal} {v0 v:AVal} {hs hs' h':AHeap} (L:List Nat) (hc:CallsA cx f args0 hs fun v' g=>v'=v0∧g=hs') (hl:hs.length=L.length) (hnd:L.Nodup) (hb:belL hs.length args0=true) (hbo:hs.all (AObj.belO hs.length)=true)
 (hobj:L.map (fun o=>h[o]?)=(renH (lendR L h.length) hs).map some) (hn:noIters h=true) (ha:renL (lendR L h.length) args0=args) (hv:v0.ren (lendR L h.length)=v) (hh:lendH h L hs'=h') :
 CallsA cx f args h fun v' g=>v'=v∧g=h':=by
 subst ha hv hh
 have le:Lend h L hs:=by
  refine ⟨hl,hnd,?_,hbo,fun o m left ho=>(noIters_get hn ho).elim⟩
  intro i o x hi hx
  have e:=congrArg (fun l=>l[i]?) hobj
  simp only [renH_map,List.getElem?_map,hi,hx,Option.map_some] at e
  exact Option.some.inj e
 exact CallsA_lend le hc hb (by rintro v' g _ ⟨rfl,rfl⟩;exact ⟨rfl,rfl⟩)
end
end Go.Proofs.YtindpcpdkikdmaaGreatDoor.Abs
namespace Go.Proofs.YtindpcpdkikdmaaGreatDoor.Abs
open Go
section
variable {cx:Cx} {l:List BOp} {S:RSt} {K:Tm→AHeap→Prop}
theorem vZ {f:FuncId} {args args':List AVal} {v:AVal} {F:AHeap} (hc:isCons l=true) (hg:bguard S.1 (hdB l).g=some true) (ho:aop cx.P S.2 (aev cx.G S.1) (hdB l).op=none) (ha:acallee (aev cx.G S.1) (hdB l).op=some (f,args))
 (hq:CallsP cx f args' v) (H0:AHeap) (hH:S.2=H0) (hf:frzL H0 args=args') (hb:belL 0 args'=true) (hF:frzH H0 (ownsL args)=F)
 (hk:bS cx l.tail (aput S.1 (hdB l).dst v,F) K):bS cx l S K:=by
 subst hH hF
 exact vcall hc hg ho ha (q:=fun v' h'=>v'=v∧h'=frzH S.2 (ownsL args)) (CallsA_pure (by rw [hf];exact hq) (by rw [hf];exact hb) ⟨rfl,rfl⟩) (by rintro v' h' ⟨rfl,rfl⟩;exact hk)
variable {f:FuncId} {args args':List AVal} {h:AHeap} {Q:AVal→AHeap→Prop}
theorem CallsA_lock {v:AVal} {H F:AHeap} (L:List Nat) (hc:CallsA cx f args h fun v' h'=>v'=v∧h'=H) (hF:frzH H L=F):CallsA cx f args h fun v' h'=>v'=v∧h'=F:=by
 subst hF
 refine ⟨hc.1,fun ρ w cargs wf hg hv=>(hc.2 ρ w cargs wf hg hv).mono ?_⟩
 rintro e w' ⟨ρ',cv,v',h',rfl,⟨rfl,rfl⟩,hvv,wf',le',fr'⟩
 obtain ⟨ρ1,q1,q2,q3,_⟩:=freeze_all L wf' fr'
 exact ⟨ρ1,cv,v',_,rfl,⟨rfl,rfl⟩,hvv.mono q2,q1,le'.trans q2,q3⟩
theorem CallsA_weak (hc:CallsA cx f args' h Q) (hw:∀ ρ w vs,VRs ρ h w args vs→VRs ρ h w args' vs):CallsA cx f args h Q :=
 ⟨hc.1,fun ρ w cargs wf hg hv=>hc.2 ρ w cargs wf hg (hw ρ w cargs hv)⟩
theorem weak_one {x y:AVal} (hw:∀ ρ w v,VR ρ h w x v→VR ρ h w y v):∀ ρ w vs,VRs ρ h w [x] vs→VRs ρ h w [y] vs:=by
 intro ρ w vs hv
 refine ⟨hv.1,fun i z v hz hv'=>?_⟩
 match i with
 | 0=>simp at hz;subst hz;exact hw ρ w v (hv.2 0 x v rfl hv')
 | i+1=>simp at hz
theorem weak_5 {a b c d e:AVal}:∀ ρ w v,VR ρ h w (.agg [a,b,c,d,e]) v→VR ρ h w (.agg [a,b,c,.any,.any]) v:=by
 intro ρ w v hv
 cases hv with
 | agg _ vs hl hx =>
  refine .agg _ vs hl fun i x y h1 h2=>?_
  match i with
  | 0=>simp at h1;subst h1;exact hx 0 _ y rfl h2
  | 1=>simp at h1;subst h1;exact hx 1 _ y rfl h2
  | 2=>simp at h1;subst h1;exact hx 2 _ y rfl h2
  | 3=>simp at h1;subst h1;exact .any _
  | 4=>simp at h1;subst h1;exact .any _
  | i+5=>simp at h1
theorem CallsA_head {a b c d e v:AVal} (hc:CallsP cx f [.agg [a,b,c,.any,.any]] v) (hb:belL 0 [a,b,c]=true) (ho:ownsL [a,b,c]=[]) (hf:frzL h [a,b,c]=[a,b,c]):CallsA cx f [.agg [a,b,c,d,e]] h fun v' h'=>v'=v∧h'=h:=by
 simp only [belL,Bool.and_true,Bool.and_eq_true] at hb
 simp only [ownsL,List.append_nil,List.append_eq_nil_iff] at ho
 simp only [frzL,List.cons.injEq,and_true] at hf
 refine CallsA_weak (args':=[.agg [a,b,c,.any,.any]]) ?_ (weak_one weak_5)
 refine CallsA_pure (v:=v) (by simp only [frzL,AVal.frz,hf.1,hf.2.1,hf.2.2];exact hc) (by simp only [frzL,AVal.frz,hf.1,hf.2.1,hf.2.2,belL,AVal.bel,hb.1,hb.2.1,hb.2.2];rfl) ⟨rfl,?_⟩
 simp only [ownsL,AVal.owns,ho.1,ho.2.1,ho.2.2,List.append_nil]
 rfl
end
end Go.Proofs.YtindpcpdkikdmaaGreatDoor.Abs
