/- The abstract layer, part 35: pure calls on arrays of one's own in a drawn region; an array is locked; the smaller of two numbers; a first append. No condition. -/
import Derived.Test.YtindpcpdkikdmaaGreatDoorAbsc
set_option linter.all false
namespace Go.Proofs.YtindpcpdkikdmaaGreatDoor.Abs
section
variable {cx:Cx} {n m:Nat} {Q:APost} {T:Tm} {h:AHeap} {l:List BOp} {KD:List (List Nat×List Nat)→Tm→AHeap→Prop} {s:DSt}
theorem dZ {f:FuncId} {args args':List AVal} {v:AVal} {F:AHeap} {L:List Nat} (hc:isCons l=true) (hg:bguard s.2.1 (hdB l).g=some true) (hal:isAl (hdB l).op=false) (ho:aop cx.P s.2.2.1 (aev cx.G s.2.1) (hdB l).op=none) (ha:acallee (aev cx.G s.2.1) (hdB l).op=some (f,args))
 (hq:CallsP cx f args' v) (H0:AHeap) (hH:s.2.2.1=H0) (hf:frzL H0 args=args') (hb:belL 0 args'=true) (hF:frzH H0 (ownsL args)=F) (hL:ownsL args=L) (hne:L.isEmpty=false)
 (hk:bdr cx l.tail (s.1,aput s.2.1 (hdB l).dst v,F,s.2.2.2++[(L,L)]) KD):bdr cx l s KD:=by
 subst hH hF hL
 refine dcall (h':=frzH s.2.2.1 (ownsL args)) hc hg hal ho ha ⟨?_,?_,?_⟩ hk
 · intro o hn
   exact frzH_other _ _ _ hn
 · exact CallsA_pure (by rw [hf];exact hq) (by rw [hf];exact hb) ⟨rfl,rfl⟩
 · intro e
   rw [e] at hne
   simp at hne
theorem dcallA {f:FuncId} {args:List AVal} {hs hs' rest:AHeap} {v:AVal} {L:List Nat} (hc:isCons l=true) (hg:bguard s.2.1 (hdB l).g=some true) (hal:isAl (hdB l).op=false) (ho:aop cx.P s.2.2.1 (aev cx.G s.2.1) (hdB l).op=none) (ha:acallee (aev cx.G s.2.1) (hdB l).op=some (f,args))
 (hS:s.2.2.1=hs++rest) (hq:CallsA cx f args hs fun v' h'=>v'=v∧h'=hs') (hb:belL hs.length args=true) (hbo:hs.all (AObj.belO hs.length)=true) (hl:hs'.length=hs.length) (hv:v.bel hs.length=true) (hbo':hs'.all (AObj.belO hs.length)=true) (hn:noIters rest=true)
 (hL:List.range hs.length=L) (hne:L.isEmpty=false) (hk:bdr cx l.tail (s.1,aput s.2.1 (hdB l).dst v,hs'++rest,s.2.2.2++[(L,L)]) KD):bdr cx l s KD:=by
 subst hL
 refine dcall (h':=hs'++rest) hc hg hal ho ha ⟨?_,?_,?_⟩ hk
 · intro o hn
   rw [hS]
   have:hs.length≤o:=by simpa using hn
   rw [List.getElem?_append_right oq,List.getElem?_append_right oq,hl]
 · rw [hS]
   exact CallsA_pre hq hb hbo hl hv hbo' hn
 · intro e
   rw [e] at hne
   simp at hne
theorem wLock (o:Nat) (h':AHeap) (hh:frzH h [o]=h') {d:Code} (hw:wpA cx n m d Q T h'):wpA cx n m d Q T h:=by
 subst hh
 intro E B ρ a w hm hr
 obtain ⟨ρ',q1,q2,q3,_⟩:=freeze_all [o] hr.wf hr.fr
 exact hw E B ρ' a w hm (hr.step q1 q2 q3)
end
section
variable {P:Program} {ev:Operand→AVal} {op:Op} {h:AHeap}
theorem o_min {a b:Nat} {ats:List Nat} (hv:vBlt ev op=some (.min,ats,[.int .i64 ((a:Nat):Int),.int .i64 ((b:Nat):Int)])):aop P h ev op=some (.int .i64 ((min a b:Nat):Int),h):=by
 rw [vBlt_spec hv]
 have e:(if ((b:Nat):Int)<((a:Nat):Int) then ((b:Nat):Int) else ((a:Nat):Int))=((min a b:Nat):Int):=by
  split <;> omega
 match ats with
 | []=>simp only [abuiltin,amin2,put1];rw [e]
 | _::_=>simp only [abuiltin,amin2,put1];rw [e]
theorem rowOk_map {α:Type} {enc:α→AVal} {sz:Nat} (hok:∀ q,((enc q).cells.length==sz && (enc q).cells.all AVal.cellOk)=true) (l:List α):rowOk sz (l.map enc)=true:=by
 unfold rowOk
 rw [List.all_eq_true]
 intro x hx
 obtain ⟨q,_,rfl⟩:=List.mem_map.1 hx
 exact hok q
theorem o_appnewM {α:Type} {enc:α→AVal} {h0:AHeap} {l:List α} {t e a b a' b':Nat} {z z':AVal} {ek:TyK} (hv:vBlt ev op=some (.append,[t,t],[.full [],.imm (l.map enc)])) (hh:h=h0)
 (ht:tyOf P t=some ⟨.slice e,a,b,z⟩) (he:tyOf P e=some ⟨ek,a',b',z'⟩) (hc:0<a'∧z'.cells.length=a') (hok:∀ q,((enc q).cells.length==a' && (enc q).cells.all AVal.cellOk)=true) (hf:l.length * b'≤140737488355328) (hf2:l.length≤140737488355328) :
 aop P h ev op=some (.own h0.length 0 l.length,h0++[.arr a' (l.map enc) 0]):=by
 subst hh
 rw [vBlt_spec hv]
 simp only [abuiltin,aappend,ht,he,aelems]
 rw [if_pos ⟨hc.1,hc.2,rowOk_map hok l⟩,if_pos ⟨rfl,rfl,by simp [fits];exact ⟨hf,hf2⟩⟩]
 simp
end
end Go.Proofs.YtindpcpdkikdmaaGreatDoor.Abs
