/- The abstract layer, part 35: pure calls on arrays of one's own in a drawn region; an array is locked; the smaller of two numbers; a first append. No condition. -/
import Derived.Test.YtcpklndelobigaaGreatDoorAbsc
set_option linter.all false
namespace Go.Proofs.YtcpklndelobigaaGreatDoor.Abs
section
variable {cx:Cx} {n m:Nat} {Q:ca} {T:Tm} {h:ae} {l:List BOp} {KD:List (List Nat×List Nat)→Tm→ae→Prop} {s:DSt}
theorem lV (o:Nat) (h':ae) (hh:cW h [o]=h') {d:Code} (hw:wpA cx n m d Q T h'):wpA cx n m d Q T h:=by
 subst hh
 intro E B ρ a w hm hr
 obtain ⟨ρ',q1,q2,q3,_⟩:=dx [o] hr.wf hr.fr
 exact hw E B ρ' a w hm (hr.step q1 q2 q3)
end
section
variable {P:Program} {ev:Operand→aa} {op:Op} {h:ae}
theorem fB {α:Type} {enc:α→aa} {sz:Nat} (hok:∀ q,((enc q).cells.length==sz && (enc q).cells.all aa.cellOk)=true) (l:List α):dZ sz (l.map enc)=true:=by
 unfold dZ
 rw [List.all_eq_true]
 intro x hx
 obtain ⟨q,_,rfl⟩:=List.mem_map.1 hx
 exact hok q
theorem m8 {α:Type} {enc:α→aa} {h0:ae} {l:List α} {t e a b a' b':Nat} {z z':aa} {ek:TyK} (hv:mw ev op=some (.append,[t,t],[.full [],.imm (l.map enc)])) (hh:h=h0)
 (ht:aN P t=some ⟨.slice e,a,b,z⟩) (he:aN P e=some ⟨ek,a',b',z'⟩) (hc:0<a'∧z'.cells.length=a') (hok:∀ q,((enc q).cells.length==a' && (enc q).cells.all aa.cellOk)=true) (hf:l.length * b'≤140737488355328) (hf2:l.length≤140737488355328) :
 aop P h ev op=some (.own h0.length 0 l.length,h0++[.arr a' (l.map enc) 0]):=by
 subst hh
 rw [eE hv]
 simp only [cp,fO,ht,he,d9]
 rw [if_pos ⟨hc.1,hc.2,fB hok l⟩,if_pos ⟨rfl,rfl,by simp [fu];exact ⟨hf,hf2⟩⟩]
 simp
end
end Go.Proofs.YtcpklndelobigaaGreatDoor.Abs
