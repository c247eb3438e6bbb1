/- Put of the reference. No condition. -/
import Derived.Test.YtindpcpdkikdmaaGreatDoorCE
import Derived.Test.YtindpcpdkikdmaaGreatDoorAbsg
set_option linter.all false
namespace Go.Proofs.YtindpcpdkikdmaaGreatDoor
open Go.Proofs.YtindpcpdkikdmaaGreatDoor.Abs
set_option maxRecDepth 20000
set_option maxHeartbeats 4000000
mutual
theorem bel_refs : ∀ x : AVal, x.bel 0 = true → x.refs = []
  | .agg cs, h => by simp only [AVal.refs]; exact belL_refs cs (by simpa [AVal.bel] using h)
  | .tup cs, h => by simp only [AVal.refs]; exact belL_refs cs (by simpa [AVal.bel] using h)
  | .pimm cs _, h => by simp only [AVal.refs]; exact belL_refs cs (by simpa [AVal.bel] using h)
  | .imm l, h => by simp only [AVal.refs]; exact belL_refs l (by simpa [AVal.bel] using h)
  | .full l, h => by simp only [AVal.refs]; exact belL_refs l (by simpa [AVal.bel] using h)
  | .fn f xs ys, h => by
    simp only [AVal.bel, Bool.and_eq_true] at h
    simp only [AVal.refs, belL_refs xs h.1, belL_refs ys h.2, List.append_nil]
  | .iface t v, h => by simp only [AVal.refs]; exact bel_refs v (by simpa [AVal.bel] using h)
  | .ptr o _, h => by simp [AVal.bel] at h
  | .pown o _ _ _, h => by simp [AVal.bel] at h
  | .own o _ _, h => by simp [AVal.bel] at h
  | .map o, h => by simp [AVal.bel] at h
  | .itr o, h => by simp [AVal.bel] at h
  | .any, _ => rfl
  | .bool _, _ => rfl
  | .int _ _, _ => rfl
  | .str _, _ => rfl
  | .nilp, _ => rfl
  | .nilm, _ => rfl
  | .nilfn, _ => rfl
  | .nili, _ => rfl
theorem belL_refs : ∀ l : List AVal, belL 0 l = true → refsL l = []
  | [], _ => rfl
  | x :: l, h => by
    simp only [belL, Bool.and_eq_true] at h
    simp only [refsL, bel_refs x h.1, belL_refs l h.2, List.append_nil]
end
@[simp] theorem refs_strs (l : List (List UInt8)) : refsL (l.map .str) = [] := belL_refs _ (by simp)
@[simp] theorem refs_tys (l : List Ty) : refsL (l.map Ty.enc) = [] := belL_refs _ (by simp)
@[simp] theorem refs_ints (l : List Int) : refsL (l.map (.int .i64)) = [] := belL_refs _ (by simp)
@[simp] theorem ren_ints (r : Nat → Nat) (l : List Int) : renL r (l.map (.int .i64)) = l.map (.int .i64) := belL_ren _ _ (by simp)
def putAt (l : List (List UInt8)) (s : List UInt8) : Nat := (l.takeWhile (fun x => sLess x s)).length
def putN (t : Ty) (s : List UInt8) : List (List UInt8) := t.names.take (putAt t.names s) ++ [s] ++ t.names.drop (putAt t.names s)
def putK (t : Ty) (s : List UInt8) (x : Ty) : List Ty := t.kids.take (putAt t.names s) ++ [x] ++ t.kids.drop (putAt t.names s)
def putT (t : Ty) (s : List UInt8) (x : Ty) : Ty := .mk 5 [] t.n (putN t s) (putK t s x)
end Go.Proofs.YtindpcpdkikdmaaGreatDoor
