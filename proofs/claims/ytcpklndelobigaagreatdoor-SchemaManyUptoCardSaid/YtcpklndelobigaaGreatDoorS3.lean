/- The hooks of the evaluator at this seat; the examples of the chapter hold: lives() returns true. No condition. -/
import Derived.Test.YtcpklndelobigaaGreatDoorS2
set_option linter.all false
namespace Go.Proofs.YtcpklndelobigaaGreatDoor
open Go.Proofs.YtcpklndelobigaaGreatDoor.Abs Go.RowKit Go.Shelf Go.Maps Go.Sort
def e5 (a b:List UInt8):Int:=bif aX a b then -1 else bif aX b a then 1 else 0
theorem tc:∀ a b,e5 a b=Lib.compareBytes a b
 | [],[]=>by simp [e5,aX,Op.bytesLess,Lib.compareBytes]
 | [],_::_=>by simp [e5,aX,Op.bytesLess,Lib.compareBytes]
 | _::_,[]=>by simp [e5,aX,Op.bytesLess,Lib.compareBytes]
 | x::a,y::b=>by
  have ih:=tc a b
  simp only [e5,aX] at ih ⊢
  rw [Lib.compareBytes,← ih]
  by_cases h:x=y
  · subst h
    simp [Op.bytesLess,UInt8.lt_irrefl]
  · have h':¬ y=x:=fun e=>h e.symm
    by_cases h1:x<y
    · simp [Op.bytesLess,h1,h]
    · have h2:y<x:=by
       rcases Nat.lt_trichotomy x.toNat y.toNat with q|q|q
       · exact absurd (UInt8.lt_iff_toNat_lt.2 q) h1
       · exact absurd (UInt8.toNat_inj.1 q) h
       · exact UInt8.lt_iff_toNat_lt.2 q
      have hb:(x==y)=false:=by simpa using h
      simp [Op.bytesLess,h1,h2,hb]
set_option maxRecDepth 100000 in
theorem jJ (a b:List UInt8):ao cx 35 [.str a,.str b] (.int .i64 (e5 a b)):=by
 refine kW ⟨_,Tryz.func35,rfl,rfl⟩ rfl fun ρ w cargs hv=>?_
 obtain ⟨u,v,rfl,hu,hv2⟩:=hv.two
 cases hu;cases hv2
 rw [tc]
 refine (Any.strings_Compare Tryz.lays106 ⟨a.toArray⟩ ⟨b.toArray⟩ w).mono ?_
 rintro e w' ⟨rfl,rfl⟩
 exact ⟨rfl,Below.refl _ _⟩
def kh:List aa→Option (List (List UInt8))
 | []=>some []
 | .str s::l=>match kh l with
  | some r=>some (s::r)
  | none=>none
 | _=>none
theorem lp:∀ {l:List aa} {ss:List (List UInt8)},kh l=some ss→l=ss.map .str
 | [],ss,h=>by simp [kh] at h;subst h;rfl
 | x::l,ss,h=>by
  cases x <;> simp only [kh] at h <;> try (simp at h;done)
  rename_i s
  cases hl:kh l with
  | none=>rw [hl] at h;simp at h
  | some r =>
   rw [hl] at h
   simp at h
   subst h
   rw [lp hl]
   rfl
def j3:List aa→ae→Option (aa×ae)
 | [.fn (.func 232) [] [.ptr o 0]],h=>match h[o]? with
  | some (.box [x])=>match d9 h x with
   | some l=>match kh l with
    | some ss=>bif Nat.ble ss.length 1000000 then some (.imm ((eq ss).map .str),h) else none
    | none=>none
   | none=>none
  | _=>none
 | _,_=>none
theorem oc {args:List aa} {h:ae} {r:aa×ae} (hr:j3 args h=some r):aL cx 179 args h fun v h'=>v=r.1∧h'=r.2:=by
 unfold j3 at hr
 split at hr <;> try (simp at hr;done)
 rename_i o
 split at hr <;> try (simp at hr;done)
 rename_i x ho
 split at hr <;> try (simp at hr;done)
 rename_i l hl
 split at hr <;> try (simp at hr;done)
 rename_i ss hs
 cases hc:Nat.ble ss.length 1000000 with
 | false=>rw [hc] at hr;simp at hr
 | true =>
  rw [hc] at hr
  simp only [cond_true,Option.some.injEq] at hr
  subst hr
  rw [lp hs] at hl
  exact oE ho hl (Nat.le_of_ble_eq_true hc)
def iJ:List aa→ae→Option (aa×ae)
 | [.str a,.str b],h=>some (.int .i64 (e5 a b),h)
 | _,_=>none
theorem mu {args:List aa} {h:ae} {r:aa×ae} (hr:iJ args h=some r):aL cx 35 args h fun v h'=>v=r.1∧h'=r.2:=by
 unfold iJ at hr
 split at hr <;> try (simp at hr;done)
 simp only [Option.some.injEq] at hr
 subst hr
 exact sF (jJ _ _) (by simp [aZ,aa.frz]) (by simp [av,aa.bel]) ⟨rfl,rfl⟩
def mp:pC:=fun f args h =>
 bif Nat.beq f 179 then j3 args h
 else bif Nat.beq f 35 then iJ args h
 else none
theorem qp:pj cx mp:=by
 intro f args h r hr
 unfold mp at hr
 cases h1:Nat.beq f 179 with
 | true =>
  rw [h1] at hr
  rw [Nat.eq_of_beq_eq_true h1]
  exact oc hr
 | false =>
  cases h2:Nat.beq f 35 with
  | true =>
   rw [h1,h2] at hr
   rw [Nat.eq_of_beq_eq_true h2]
   exact mu hr
  | false=>rw [h1,h2] at hr;simp at hr
def oV:iE:=fun f args h=>bif Nat.beq f 179 || Nat.beq f 35 then pZ (fun _ _ _=>none) mp (fun _=>false) f args h else gx f args h
theorem b8:∀ f args h r,oV f args h=some r→fK cx f args h r.1 r.2.1 r.2.2:=by
 intro f args h r hr
 unfold oV at hr
 cases hc:Nat.beq f 179 || Nat.beq f 35 with
 | false=>rw [hc] at hr;exact yx f args h r hr
 | true =>
  rw [hc] at hr
  simp only [cond_true] at hr
  exact gN (raw:=fun _=>false) (gx:=fun _ _ _=>none) zq qp f args h r hr
end Go.Proofs.YtcpklndelobigaaGreatDoor
