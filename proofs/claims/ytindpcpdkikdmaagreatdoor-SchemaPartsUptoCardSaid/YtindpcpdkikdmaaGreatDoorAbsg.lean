/- The abstract layer, part 41: a call upon the whole heap in a drawn region. No condition. -/
import Derived.Test.YtindpcpdkikdmaaGreatDoorAbsf
set_option linter.all false
set_option linter.unusedSimpArgs false
set_option linter.unusedVariables false
namespace Go.Proofs.YtindpcpdkikdmaaGreatDoor.Abs
end Go.Proofs.YtindpcpdkikdmaaGreatDoor.Abs
namespace Go.Proofs.YtindpcpdkikdmaaGreatDoor.Abs
section
variable {cx : Cx} {bl : List BOp} {K : Tm → AHeap → Prop} {S : RSt}
end
section
variable {P : Program} {ev : Operand → AVal} {op : Op} {h : AHeap}
end
end Go.Proofs.YtindpcpdkikdmaaGreatDoor.Abs
namespace Go.Proofs.YtindpcpdkikdmaaGreatDoor.Abs
section
variable {cx : Cx} {n m : Nat} {c : Code} {p : List Nat} {Q : APost} {T : Tm} {h : AHeap}
end
end Go.Proofs.YtindpcpdkikdmaaGreatDoor.Abs
namespace Go.Proofs.YtindpcpdkikdmaaGreatDoor.Abs
section
variable {P : Program} {ev : Operand → AVal} {op : Op} {h : AHeap}
end
section
variable {cx : Cx} {n m : Nat} {c : Code} {p : List Nat} {Q : APost} {T : Tm} {h : AHeap}
/-- What holds behind some freezing. -/
def Wk (cx : Cx) (n m : Nat) (K : Tm → AHeap → Prop) (T : Tm) (h : AHeap) : Prop := ∀ (d : Code) (Q : APost), (∀ T' h', K T' h' → wpA cx n m d Q T' h') → wpA cx n m d Q T h
theorem wJoinK {σ : Type} (S : σ → Tm) (H : σ → AHeap) (I : σ → Prop) (hk : kindOf (at_ c p) = 1)
    (h1 : wpA cx n m (at_ c (0 :: p)) (AThen (Wk cx n m (fun T' h' => ∃ s', I s' ∧ Forget m T' h' (S s') (H s'))) Q) T h) (h2 : ∀ s, I s → wpA cx n m (at_ c (1 :: p)) Q (S s) (H s)) : wpA cx n m (at_ c p) Q T h := by
  refine wSeq hk (wpA_mono h1 ?_)
  intro e T' h' q
  cases e with
  | normal => exact q _ _ fun T1 g1 ⟨s, hs, hf⟩ => wpA_forgetS hf (h2 s hs)
  | _ => exact q
end
end Go.Proofs.YtindpcpdkikdmaaGreatDoor.Abs
