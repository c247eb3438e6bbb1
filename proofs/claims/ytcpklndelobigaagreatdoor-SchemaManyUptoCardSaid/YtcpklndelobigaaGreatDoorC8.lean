/- Equal of references; the reference's Equal of sums and fq. Condition: sizes that can be had. -/
import Derived.Test.YtcpklndelobigaaGreatDoorC7
set_option linter.all false
namespace Go.Proofs.YtcpklndelobigaaGreatDoor
open Go.Proofs.YtcpklndelobigaaGreatDoor.Abs
set_option maxRecDepth 20000
set_option maxHeartbeats 4000000
def vG (ev:Operand→aa):Op→Option (BinOp×TypeId×aa×aa)
 | .binOp op t x y _=>some (op,t,ev x,ev y)
 | _=>none
section
variable {P:Program} {ev:Operand→aa} {op:Op} {h:ae}
theorem sd {b:BinOp} {t:TypeId} {x y:aa} (hv:vG ev op=some (b,t,x,y)):aop P h ev op=cG h (mM P b t x y):=by
 unfold vG at hv
 split at hv <;> simp at hv
 obtain ⟨rfl,rfl,rfl,rfl⟩:=hv
 rfl
theorem zY {t:TypeId} {xs ys:List aa} {q:Bool} (hv:vG ev op=some (.neq,t,.agg xs,.agg ys)) (hq:gW P t (.agg xs) (.agg ys)=some q):aop P h ev op=some (.bool !q,h):=by
 rw [sd hv];simp only [mM,hq];rfl
end
theorem uY (a b:Rf):gW cx.P 55 a.v b.v=some (a.beq b):=by
 have e:gW cx.P 55 a.v b.v=(match some (a.col==b.col) with
  | some true=>(match some (a.tab==b.tab) with
   | some true=>some true
   | some false=>some false
   | none=>none)
  | some false=>some false
  | none=>none):=by kernel_rfl
 rw [e,Rf.beq]
 cases a.col==b.col <;> cases a.tab==b.tab <;> rfl
end Go.Proofs.YtcpklndelobigaaGreatDoor
