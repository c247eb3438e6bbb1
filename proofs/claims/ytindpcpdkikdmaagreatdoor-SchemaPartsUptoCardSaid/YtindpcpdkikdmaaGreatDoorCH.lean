/- Open of the reference. No condition. -/
import Derived.Test.YtindpcpdkikdmaaGreatDoorCG
set_option linter.all false
namespace Go.Proofs.YtindpcpdkikdmaaGreatDoor
open Go.Proofs.YtindpcpdkikdmaaGreatDoor.Abs
set_option maxRecDepth 20000
set_option maxHeartbeats 4000000
@[simp] theorem Ty.kind_mk (k : Int) (x : List UInt8) (n : Int) (l : List (List UInt8)) (ks : List Ty) : (Ty.mk k x n l ks).kind = k := rfl
@[simp] theorem Ty.name_mk (k : Int) (x : List UInt8) (n : Int) (l : List (List UInt8)) (ks : List Ty) : (Ty.mk k x n l ks).name = x := rfl
@[simp] theorem Ty.n_mk (k : Int) (x : List UInt8) (n : Int) (l : List (List UInt8)) (ks : List Ty) : (Ty.mk k x n l ks).n = n := rfl
@[simp] theorem Ty.names_mk (k : Int) (x : List UInt8) (n : Int) (l : List (List UInt8)) (ks : List Ty) : (Ty.mk k x n l ks).names = l := rfl
@[simp] theorem Ty.kids_mk (k : Int) (x : List UInt8) (n : Int) (l : List (List UInt8)) (ks : List Ty) : (Ty.mk k x n l ks).kids = ks := rfl
end Go.Proofs.YtindpcpdkikdmaaGreatDoor
