/- Rules for calls on objects that lie anywhere. No condition. -/
import Derived.Test.YtcpklndelobigaaGreatDoorAbsd
set_option linter.all false
namespace Go.Proofs.YtcpklndelobigaaGreatDoor.Abs
section
variable {cx:Cx} {l:List BOp} {S:Tm×ae} {K:Tm→ae→Prop}
theorem iQ {f:FuncId} {args:List aa} {v:aa} {h':ae} (H0:ae) (hc:bt l=true) (hg:bB S.1 (hdB l).g=some true) (ho:aop cx.P S.2 (aev cx.G S.1) (hdB l).op=none) (ha:aK (aev cx.G S.1) (hdB l).op=some (f,args)) (hS:S.2=H0) (hq:aL cx f args H0 fun v' h''=>v'=v∧h''=h')
 (hk:bS cx l.tail (bK S.1 (hdB l).dst v,h') K):bS cx l S K:=by
 subst hS
 exact sA hc hg ho ha hq (by rintro v' h'' ⟨rfl,rfl⟩;exact hk)
end
end Go.Proofs.YtcpklndelobigaaGreatDoor.Abs
namespace Go.Proofs.YtcpklndelobigaaGreatDoor.Abs
open Go
section
variable {cx:Cx} {h:ae}
theorem kg {f:FuncId} {args0 args:List aa} {v0 v:aa} {hs hs' h':ae} (L:List Nat) (hc:aL cx f args0 hs fun v' g=>v'=v0∧g=hs') (hl:hs.length=L.length) (hnd:L.Nodup) (hb:av hs.length args0=true) (hbo:hs.all (ai.belO hs.length)=true)
 (hobj:L.map (fun o=>h[o]?)=(kU (cf L h.length) hs).map some) (hn:fS h=true) (ha:cA (cf L h.length) args0=args) (hv:v0.ren (cf L h.length)=v) (hh:dJ h L hs'=h') :
 aL cx f args h fun v' g=>v'=v∧g=h':=by
 subst ha hv hh
 have le:om h L hs:=by
  refine ⟨hl,hnd,?_,hbo,fun o m left ho=>(gJ hn ho).elim⟩
  intro i o x hi hx
  have e:=congrArg (fun l=>l[i]?) hobj
  simp only [fL,List.getElem?_map,hi,hx,Option.map_some] at e
  exact Option.some.inj e
 exact fd le hc hb (by rintro v' g _ ⟨rfl,rfl⟩;exact ⟨rfl,rfl⟩)
end
end Go.Proofs.YtcpklndelobigaaGreatDoor.Abs
namespace Go.Proofs.YtcpklndelobigaaGreatDoor.Abs
open Go
section
variable {cx:Cx} {l:List BOp} {S:RSt} {K:Tm→ae→Prop}
theorem vZ {f:FuncId} {args args':List aa} {v:aa} {F:ae} (hc:bt l=true) (hg:bB S.1 (hdB l).g=some true) (ho:aop cx.P S.2 (aev cx.G S.1) (hdB l).op=none) (ha:aK (aev cx.G S.1) (hdB l).op=some (f,args))
 (hq:ao cx f args' v) (H0:ae) (hH:S.2=H0) (hf:aZ H0 args=args') (hb:av 0 args'=true) (hF:cW H0 (aO args)=F)
 (hk:bS cx l.tail (bK S.1 (hdB l).dst v,F) K):bS cx l S K:=by
 subst hH hF
 exact sA hc hg ho ha (q:=fun v' h'=>v'=v∧h'=cW S.2 (aO args)) (fh (by rw [hf];exact hq) (by rw [hf];exact hb) ⟨rfl,rfl⟩) (by rintro v' h' ⟨rfl,rfl⟩;exact hk)
variable {f:FuncId} {args args':List aa} {h:ae} {Q:aa→ae→Prop}
end
end Go.Proofs.YtcpklndelobigaaGreatDoor.Abs
