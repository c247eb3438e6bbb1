/- The hooks of the evaluator at this seat; the examples of the chapter hold: lives() returns true. No condition. -/
import Derived.Test.YtcpklndelobigaaGreatDoorS2
set_option linter.all false
namespace Go.Proofs.YtcpklndelobigaaGreatDoor
open Go.Proofs.YtcpklndelobigaaGreatDoor.Abs Go.RowKit Go.Shelf Go.Maps Go.Sort
def eQ (a b:List UInt8):Int:=bif aX a b then -1 else bif aX b a then 1 else 0
theorem sU:∀ a b,eQ a b=Lib.compareBytes a b
 | [],[]=>by simp [eQ,aX,Op.bytesLess,Lib.compareBytes]
 | [],_::_=>by simp [eQ,aX,Op.bytesLess,Lib.compareBytes]
 | _::_,[]=>by simp [eQ,aX,Op.bytesLess,Lib.compareBytes]
 | x::a,y::b=>by
  have ih:=sU a b
  simp only [eQ,aX] at ih ⊢
  rw [Lib.compareBytes,← ih]
  by_cases h:x=y
  · subst h
    simp [Op.bytesLess,UInt8.lt_irrefl]
  · have h':¬ y=x:=fun e=>h e.symm
    by_cases h1:x<y
    · simp [Op.bytesLess,h1,h]
    · have h2:y<x:=by
       rcases Nat.lt_trichotomy x.toNat y.toNat with q|q|q
       · exact absurd (UInt8.lt_iff_toNat_lt.2 q) h1
       · exact absurd (UInt8.toNat_inj.1 q) h
       · exact UInt8.lt_iff_toNat_lt.2 q
      have hb:(x==y)=false:=by simpa using h
      simp [Op.bytesLess,h1,h2,hb]
set_option maxRecDepth 100000 in
theorem jn (a b:List UInt8):ao cx 35 [.str a,.str b] (.int .i64 (eQ a b)):=by
 refine kO ⟨_,Tryz.func35,rfl,rfl⟩ rfl fun ρ w cargs hv=>?_
 obtain ⟨u,v,rfl,hu,hv2⟩:=hv.two
 cases hu;cases hv2
 rw [sU]
 refine (Any.strings_Compare Tryz.lays106 ⟨a.toArray⟩ ⟨b.toArray⟩ w).mono ?_
 rintro e w' ⟨rfl,rfl⟩
 exact ⟨rfl,Below.refl _ _⟩
def ke:List aa→Option (List (List UInt8))
 | []=>some []
 | .str s::l=>match ke l with
  | some r=>some (s::r)
  | none=>none
 | _=>none
theorem ls:∀ {l:List aa} {ss:List (List UInt8)},ke l=some ss→l=ss.map .str
 | [],ss,h=>by simp [ke] at h;subst h;rfl
 | x::l,ss,h=>by
  cases x <;> simp only [ke] at h <;> try (simp at h;done)
  rename_i s
  cases hl:ke l with
  | none=>rw [hl] at h;simp at h
  | some r =>
   rw [hl] at h
   simp at h
   subst h
   rw [ls hl]
   rfl
def kg:List aa→ae→Option (aa×ae)
 | [.fn (.func 232) [] [.ptr o 0]],h=>match h[o]? with
  | some (.box [x])=>match d2 h x with
   | some l=>match ke l with
    | some ss=>bif Nat.ble ss.length 1000000 then some (.imm ((eq ss).map .str),h) else none
    | none=>none
   | none=>none
  | _=>none
 | _,_=>none
theorem n7 {args:List aa} {h:ae} {r:aa×ae} (hr:kg args h=some r):aL cx 179 args h fun v h'=>v=r.1∧h'=r.2:=by
 unfold kg at hr
 split at hr <;> try (simp at hr;done)
 rename_i o
 split at hr <;> try (simp at hr;done)
 rename_i x ho
 split at hr <;> try (simp at hr;done)
 rename_i l hl
 split at hr <;> try (simp at hr;done)
 rename_i ss hs
 cases hc:Nat.ble ss.length 1000000 with
 | false=>rw [hc] at hr;simp at hr
 | true =>
  rw [hc] at hr
  simp only [cond_true,Option.some.injEq] at hr
  subst hr
  rw [ls hs] at hl
  exact nD ho hl (Nat.le_of_ble_eq_true hc)
def i2:List aa→ae→Option (aa×ae)
 | [.str a,.str b],h=>some (.int .i64 (eQ a b),h)
 | _,_=>none
theorem mu {args:List aa} {h:ae} {r:aa×ae} (hr:i2 args h=some r):aL cx 35 args h fun v h'=>v=r.1∧h'=r.2:=by
 unfold i2 at hr
 split at hr <;> try (simp at hr;done)
 simp only [Option.some.injEq] at hr
 subst hr
 exact tw (jn _ _) (by simp [aZ,aa.frz]) (by simp [av,aa.bel]) ⟨rfl,rfl⟩
def lA:qF:=fun f args h =>
 bif Nat.beq f 179 then kg args h
 else bif Nat.beq f 35 then i2 args h
 else none
theorem pX:qa cx lA:=by
 intro f args h r hr
 unfold lA at hr
 cases h1:Nat.beq f 179 with
 | true =>
  rw [h1] at hr
  rw [Nat.eq_of_beq_eq_true h1]
  exact n7 hr
 | false =>
  cases h2:Nat.beq f 35 with
  | true =>
   rw [h1,h2] at hr
   rw [Nat.eq_of_beq_eq_true h2]
   exact mu hr
  | false=>rw [h1,h2] at hr;simp at hr
def oO:iA:=fun f args h=>bif Nat.beq f 179 || Nat.beq f 35 then oX (fun _ _ _=>none) lA (fun _=>false) f args h else gX f args h
theorem b8:∀ f args h r,oO f args h=some r→fK cx f args h r.1 r.2.1 r.2.2:=by
 intro f args h r hr
 unfold oO at hr
 cases hc:Nat.beq f 179 || Nat.beq f 35 with
 | false=>rw [hc] at hr;exact xf f args h r hr
 | true =>
  rw [hc] at hr
  simp only [cond_true] at hr
  exact gC (raw:=fun _=>false) (gX:=fun _ _ _=>none) zq pX f args h r hr
end Go.Proofs.YtcpklndelobigaaGreatDoor
