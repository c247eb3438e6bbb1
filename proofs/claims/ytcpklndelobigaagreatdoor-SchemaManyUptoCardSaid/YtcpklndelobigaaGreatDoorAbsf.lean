/- The heap in another order behind what is lent. No condition. -/
import Derived.Test.YtcpklndelobigaaGreatDoorAbse
set_option linter.all false
namespace Go.Proofs.YtcpklndelobigaaGreatDoor.Abs
open Go
section
variable {cx:Cx} {n m:Nat} {T:Tm} {h:ae} {Q:ca}
theorem pA (t o:Nat) {es:List aa} {off len sz fr:Nat} (es':List aa) (hx:Tm.get T t=.own o off len) (ho:h[o]?=some (.arr sz es fr)) (htip:off+len=es.length) (hes:es.drop off=es') {d:Code}
 (hk:wpA cx n m d Q ((t,.imm es')::T) (h.set o (.arr sz es es.length))):wpA cx n m d Q T h:=by
 intro E B ρ a w hm hr
 obtain ⟨ρ1,g1,g2,g3,g4⟩:=eN hr.wf hr.fr ho
 have hr1:=hr.step g1 g2 g3
 refine hk E B ρ1 a w hm ⟨fun t'=>?_,hr1.size,hr1.defers,hr1.glob,hr1.wf,hr1.fr,hr1.le⟩
 simp only [Tm.get]
 by_cases e:t=t'
 · subst e
   rw [if_pos rfl,← hes]
   exact g4 off len _ htip (hx▸hr.tm t)
 · rw [if_neg e];exact hr1.tm t'
end
section
variable {P:Program} {ev:Operand→aa} {op:Op} {h:ae}
end
end Go.Proofs.YtcpklndelobigaaGreatDoor.Abs
