/- Expressions and schemas as plain data, and what Equal says of them. No condition. -/
import Derived.Test.YtindpcpdkikdmaaGreatDoorC2
set_option linter.all false
namespace Go.Proofs.YtindpcpdkikdmaaGreatDoor
open Go.Proofs.YtindpcpdkikdmaaGreatDoor.Abs
inductive Ex where
  | mk (kind : Int) (name : List UInt8) (n : Int) (s : List UInt8) (names binds : List (List UInt8)) (kids : List Ex) (pos fin : Int)
def Ex.kind : Ex → Int | .mk k _ _ _ _ _ _ _ _ => k
def Ex.name : Ex → List UInt8 | .mk _ x _ _ _ _ _ _ _ => x
def Ex.n : Ex → Int | .mk _ _ n _ _ _ _ _ _ => n
def Ex.s : Ex → List UInt8 | .mk _ _ _ s _ _ _ _ _ => s
def Ex.names : Ex → List (List UInt8) | .mk _ _ _ _ l _ _ _ _ => l
def Ex.binds : Ex → List (List UInt8) | .mk _ _ _ _ _ l _ _ _ => l
def Ex.kids : Ex → List Ex | .mk _ _ _ _ _ _ l _ _ => l
def Ex.pos : Ex → Int | .mk _ _ _ _ _ _ _ p _ => p
def Ex.fin : Ex → Int | .mk _ _ _ _ _ _ _ _ q => q
def Ex.zero : Ex := .mk 0 [] 0 [] [] [] [] 0 0
mutual
def Ex.enc : Ex → AVal
  | .mk k x n s l b ks p q => .agg [.int .i64 k, .str x, .int .i64 n, .str s, .imm (l.map .str), .imm (b.map .str), .imm (Ex.encL ks), .int .i64 p, .int .i64 q]
def Ex.encL : List Ex → List AVal
  | [] => []
  | t :: l => t.enc :: Ex.encL l
end
theorem Ex.encL_map : ∀ l, Ex.encL l = l.map Ex.enc
  | [] => rfl
  | t :: l => by rw [Ex.encL, Ex.encL_map l]; rfl
def Ex.v (t : Ex) : AVal := .agg [.int .i64 t.kind, .str t.name, .int .i64 t.n, .str t.s, .imm (t.names.map .str), .imm (t.binds.map .str), .imm (t.kids.map Ex.enc), .int .i64 t.pos, .int .i64 t.fin]
theorem Ex.enc_v (t : Ex) : t.enc = t.v := by cases t; simp only [Ex.enc, Ex.encL_map]; rfl
theorem ex_cells (t : Ex) : t.enc.cells = [.int .i64 t.kind, .str t.name, .int .i64 t.n, .str t.s, .imm (t.names.map .str), .imm (t.binds.map .str), .imm (t.kids.map Ex.enc), .int .i64 t.pos, .int .i64 t.fin] := by rw [Ex.enc_v]; rfl
theorem ex_size (t : Ex) : t.enc.cells.length = 9 := by rw [ex_cells]; rfl
mutual
theorem Ex.frz_enc (h : AHeap) : ∀ t : Ex, t.enc.frz h = t.enc
  | .mk k x n s l b ks p q => by simp only [Ex.enc, AVal.frz, frzL, frzL_strs, Ex.frz_encL h ks]
theorem Ex.frz_encL (h : AHeap) : ∀ l : List Ex, frzL h (Ex.encL l) = Ex.encL l
  | [] => rfl
  | t :: l => by simp only [Ex.encL, frzL, Ex.frz_enc h t, Ex.frz_encL h l]
end
mutual
theorem Ex.bel_enc (k : Nat) : ∀ t : Ex, t.enc.bel k = true
  | .mk _ x n s l b ks p q => by simp only [Ex.enc, AVal.bel, belL, belL_strs, Ex.bel_encL k ks, Bool.and_self]
theorem Ex.bel_encL (k : Nat) : ∀ l : List Ex, belL k (Ex.encL l) = true
  | [] => rfl
  | t :: l => by simp only [Ex.encL, belL, Ex.bel_enc k t, Ex.bel_encL k l, Bool.and_self]
end
mutual
theorem Ex.owns_enc : ∀ t : Ex, t.enc.owns = []
  | .mk _ x n s l b ks p q => by simp only [Ex.enc, AVal.owns, ownsL, ownsL_strs, Ex.owns_encL ks, List.append_nil]
theorem Ex.owns_encL : ∀ l : List Ex, ownsL (Ex.encL l) = []
  | [] => rfl
  | t :: l => by simp only [Ex.encL, ownsL, Ex.owns_enc t, Ex.owns_encL l, List.append_nil]
end
@[simp] theorem frzL_exs (h : AHeap) (l : List Ex) : frzL h (l.map Ex.enc) = l.map Ex.enc := frzL_map_same h (Ex.frz_enc h) l
@[simp] theorem belL_exs (k : Nat) (l : List Ex) : belL k (l.map Ex.enc) = true := belL_map k (Ex.bel_enc k) l
@[simp] theorem ownsL_exs (l : List Ex) : ownsL (l.map Ex.enc) = [] := ownsL_map Ex.owns_enc l
@[simp] theorem frz_exv (h : AHeap) (t : Ex) : t.v.frz h = t.v := by simp [Ex.v]
@[simp] theorem bel_exv (k : Nat) (t : Ex) : t.v.bel k = true := by simp [Ex.v]
@[simp] theorem owns_exv (t : Ex) : t.v.owns = [] := by simp [Ex.v]
mutual
def Ex.sz : Ex → Nat
  | .mk _ x _ s l b ks _ _ => 1 + x.length + s.length + szS l + szS b + Ex.szL ks
def Ex.szL : List Ex → Nat
  | [] => 0
  | t :: l => t.sz + 1 + Ex.szL l
end
theorem xszL_len : ∀ l, l.length ≤ Ex.szL l
  | [] => Nat.le_refl _
  | x :: l => by have := xszL_len l; simp [Ex.szL]; omega
theorem xszL_getD : ∀ (l : List Ex) (i : Nat), i < l.length → (l.getD i Ex.zero).sz < Ex.szL l
  | [], i, h => by simp at h
  | x :: l, 0, _ => by simp [Ex.szL]; omega
  | x :: l, i + 1, h => by have := xszL_getD l i (by simpa using h); simp [Ex.szL] at *; omega
theorem xsz_eq (t : Ex) : t.sz = 1 + t.name.length + t.s.length + szS t.names + szS t.binds + Ex.szL t.kids := by cases t; simp [Ex.sz, Ex.name, Ex.s, Ex.names, Ex.binds, Ex.kids]
theorem xsz_names (t : Ex) : t.names.length < t.sz := by have := szS_len t.names; have e := xsz_eq t; omega
theorem xsz_binds (t : Ex) : t.binds.length < t.sz := by have := szS_len t.binds; have e := xsz_eq t; omega
theorem xsz_kids (t : Ex) : t.kids.length < t.sz := by have := xszL_len t.kids; have e := xsz_eq t; omega
theorem xsz_kid (t : Ex) (i : Nat) (h : i < t.kids.length) : (t.kids.getD i Ex.zero).sz < t.sz := by have := xszL_getD t.kids i h; have e := xsz_eq t; omega
mutual
def Ex.beq : Ex → Ex → Bool
  | .mk k x n s l b ks _ _, .mk k' x' n' s' l' b' ks' _ _ => (k == k') && ((x == x') && ((n == n') && ((s == s') && ((l == l') && ((b == b') && Ex.beqL ks ks')))))
def Ex.beqL : List Ex → List Ex → Bool
  | [], [] => true
  | x :: xs, y :: ys => x.beq y && Ex.beqL xs ys
  | _, _ => false
end
theorem xbeqL_zip : ∀ a b, Ex.beqL a b = zipAll Ex.beq a b
  | [], [] => by rw [Ex.beqL, zipAll]
  | [], _ :: _ => by simp [Ex.beqL, zipAll]
  | _ :: _, [] => by simp [Ex.beqL, zipAll]
  | x :: a, y :: b => by rw [Ex.beqL, zipAll, xbeqL_zip a b]
theorem xbeq_eq (a b : Ex) : a.beq b = ((a.kind == b.kind) && ((a.name == b.name) && ((a.n == b.n) && ((a.s == b.s) && ((a.names == b.names) && ((a.binds == b.binds) && zipAll Ex.beq a.kids b.kids)))))) := by
  cases a; cases b; simp only [Ex.beq, xbeqL_zip]; rfl
end Go.Proofs.YtindpcpdkikdmaaGreatDoor
