/- schema.Equal is the equality of the data. Condition: sizes that can be had. -/
import Derived.Test.YtindpcpdkikdmaaGreatDoorCC
set_option linter.all false
namespace Go.Proofs.YtindpcpdkikdmaaGreatDoor
open Go.Proofs.YtindpcpdkikdmaaGreatDoor.Abs
set_option maxRecDepth 20000
set_option maxHeartbeats 4000000
theorem ren_map_same {α : Type} (enc : α → AVal) (r : Nat → Nat) (h : ∀ x, (enc x).ren r = enc x) (l : List α) : renL r (l.map enc) = l.map enc := by
  rw [renL_map, List.map_map]; exact List.map_congr_left fun x _ => h x
@[simp] theorem ren_strs (r : Nat → Nat) (l : List (List UInt8)) : renL r (l.map AVal.str) = l.map AVal.str := ren_map_same _ r (fun _ => rfl) l
mutual
theorem Ty.ren_enc (r : Nat → Nat) : ∀ t : Ty, t.enc.ren r = t.enc
  | .mk k x n l ks => by simp only [Ty.enc, AVal.ren, renL, ren_strs, Ty.ren_encL r ks]
theorem Ty.ren_encL (r : Nat → Nat) : ∀ l : List Ty, renL r (Ty.encL l) = Ty.encL l
  | [] => rfl
  | t :: l => by simp only [Ty.encL, renL, Ty.ren_enc r t, Ty.ren_encL r l]
end
mutual
theorem Ex.ren_enc (r : Nat → Nat) : ∀ t : Ex, t.enc.ren r = t.enc
  | .mk k x n s l b ks p q => by simp only [Ex.enc, AVal.ren, renL, ren_strs, Ex.ren_encL r ks]
theorem Ex.ren_encL (r : Nat → Nat) : ∀ l : List Ex, renL r (Ex.encL l) = Ex.encL l
  | [] => rfl
  | t :: l => by simp only [Ex.encL, renL, Ex.ren_enc r t, Ex.ren_encL r l]
end
@[simp] theorem ren_tys (r : Nat → Nat) (l : List Ty) : renL r (l.map Ty.enc) = l.map Ty.enc := ren_map_same _ r (Ty.ren_enc r) l
@[simp] theorem ren_exs (r : Nat → Nat) (l : List Ex) : renL r (l.map Ex.enc) = l.map Ex.enc := ren_map_same _ r (Ex.ren_enc r) l
@[simp] theorem ren_cts (r : Nat → Nat) (l : List Ct) : renL r (l.map Ct.v) = l.map Ct.v := ren_map_same _ r (fun x => by simp [Ct.v, AVal.ren, renL]) l
@[simp] theorem ren_cos (r : Nat → Nat) (l : List Co) : renL r (l.map Co.v) = l.map Co.v := ren_map_same _ r (fun x => by simp [Co.v, AVal.ren, renL]) l
@[simp] theorem ren_rfs (r : Nat → Nat) (l : List Rf) : renL r (l.map Rf.v) = l.map Rf.v := ren_map_same _ r (fun x => by simp [Rf.v, AVal.ren, renL]) l
@[simp] theorem renL_sms (r : Nat → Nat) (l : List Sm) : renL r (l.map Sm.v) = l.map Sm.v := ren_map_same _ r (fun x => by simp [Sm.v, AVal.ren, renL]) l
@[simp] theorem renL_tbs (r : Nat → Nat) (l : List Tb) : renL r (l.map Tb.v) = l.map Tb.v := ren_map_same _ r (fun x => by simp [Tb.v, AVal.ren, renL]) l
end Go.Proofs.YtindpcpdkikdmaaGreatDoor
