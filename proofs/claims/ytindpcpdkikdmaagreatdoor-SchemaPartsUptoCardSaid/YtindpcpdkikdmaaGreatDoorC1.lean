/- Types as plain data, and what Equal says of them. No condition. -/
import Derived.Test.YtindpcpdkikdmaaGreatDoorS1
namespace Go.Proofs.YtindpcpdkikdmaaGreatDoor
open Go.Proofs.YtindpcpdkikdmaaGreatDoor.Abs
inductive Ty where
  | mk (kind : Int) (name : List UInt8) (n : Int) (names : List (List UInt8)) (kids : List Ty)
def Ty.kind : Ty → Int | .mk k _ _ _ _ => k
def Ty.name : Ty → List UInt8 | .mk _ x _ _ _ => x
def Ty.n : Ty → Int | .mk _ _ n _ _ => n
def Ty.names : Ty → List (List UInt8) | .mk _ _ _ l _ => l
def Ty.kids : Ty → List Ty | .mk _ _ _ _ l => l
def Ty.zero : Ty := .mk 0 [] 0 [] []
mutual
def Ty.enc : Ty → AVal
  | .mk k x n l ks => .agg [.int .i64 k, .str x, .int .i64 n, .imm (l.map .str), .imm (Ty.encL ks)]
def Ty.encL : List Ty → List AVal
  | [] => []
  | t :: l => t.enc :: Ty.encL l
end
theorem Ty.encL_map : ∀ l, Ty.encL l = l.map Ty.enc
  | [] => rfl
  | t :: l => by rw [Ty.encL, Ty.encL_map l]; rfl
/-- A type in a box. -/
abbrev Ty.bx (t : Ty) : AObj := .box [.int .i64 t.kind, .str t.name, .int .i64 t.n, .imm (t.names.map .str), .imm (t.kids.map Ty.enc)]
def Ty.v (t : Ty) : AVal := .agg [.int .i64 t.kind, .str t.name, .int .i64 t.n, .imm (t.names.map .str), .imm (t.kids.map Ty.enc)]
theorem Ty.enc_v (t : Ty) : t.enc = t.v := by cases t; simp only [Ty.enc, Ty.encL_map]; rfl
theorem ty_cells (t : Ty) : t.enc.cells = [.int .i64 t.kind, .str t.name, .int .i64 t.n, .imm (t.names.map .str), .imm (t.kids.map Ty.enc)] := by rw [Ty.enc_v]; rfl
theorem ty_size (t : Ty) : t.enc.cells.length = 5 := by rw [ty_cells]; rfl
mutual
theorem Ty.frz_enc (h : AHeap) : ∀ t : Ty, t.enc.frz h = t.enc
  | .mk k x n l ks => by simp only [Ty.enc, AVal.frz, frzL, frzL_strs, Ty.frz_encL h ks]
theorem Ty.frz_encL (h : AHeap) : ∀ l : List Ty, frzL h (Ty.encL l) = Ty.encL l
  | [] => rfl
  | t :: l => by simp only [Ty.encL, frzL, Ty.frz_enc h t, Ty.frz_encL h l]
end
mutual
theorem Ty.bel_enc (k : Nat) : ∀ t : Ty, t.enc.bel k = true
  | .mk _ x n l ks => by simp only [Ty.enc, AVal.bel, belL, belL_strs, Ty.bel_encL k ks, Bool.and_self]
theorem Ty.bel_encL (k : Nat) : ∀ l : List Ty, belL k (Ty.encL l) = true
  | [] => rfl
  | t :: l => by simp only [Ty.encL, belL, Ty.bel_enc k t, Ty.bel_encL k l, Bool.and_self]
end
mutual
theorem Ty.owns_enc : ∀ t : Ty, t.enc.owns = []
  | .mk _ x n l ks => by simp only [Ty.enc, AVal.owns, ownsL, ownsL_strs, Ty.owns_encL ks, List.append_nil]
theorem Ty.owns_encL : ∀ l : List Ty, ownsL (Ty.encL l) = []
  | [] => rfl
  | t :: l => by simp only [Ty.encL, ownsL, Ty.owns_enc t, Ty.owns_encL l, List.append_nil]
end
@[simp] theorem frzL_tys (h : AHeap) (l : List Ty) : frzL h (l.map Ty.enc) = l.map Ty.enc := frzL_map_same h (Ty.frz_enc h) l
@[simp] theorem belL_tys (k : Nat) (l : List Ty) : belL k (l.map Ty.enc) = true := belL_map k (Ty.bel_enc k) l
@[simp] theorem ownsL_tys (l : List Ty) : ownsL (l.map Ty.enc) = [] := ownsL_map Ty.owns_enc l
@[simp] theorem frz_tyv (h : AHeap) (t : Ty) : t.v.frz h = t.v := by simp [Ty.v]
@[simp] theorem bel_tyv (k : Nat) (t : Ty) : t.v.bel k = true := by simp [Ty.v]
@[simp] theorem owns_tyv (t : Ty) : t.v.owns = [] := by simp [Ty.v]

/-! How great a type is. -/
def szS : List (List UInt8) → Nat
  | [] => 0
  | x :: l => x.length + 1 + szS l
mutual
def Ty.sz : Ty → Nat
  | .mk _ x _ l ks => 1 + x.length + szS l + Ty.szL ks
def Ty.szL : List Ty → Nat
  | [] => 0
  | t :: l => t.sz + 1 + Ty.szL l
end
theorem szS_len : ∀ l, l.length ≤ szS l
  | [] => Nat.le_refl _
  | x :: l => by have := szS_len l; simp [szS]; omega
theorem szL_len : ∀ l, l.length ≤ Ty.szL l
  | [] => Nat.le_refl _
  | x :: l => by have := szL_len l; simp [Ty.szL]; omega
theorem szL_getD : ∀ (l : List Ty) (i : Nat), i < l.length → (l.getD i Ty.zero).sz < Ty.szL l
  | [], i, h => by simp at h
  | x :: l, 0, _ => by simp [Ty.szL]; omega
  | x :: l, i + 1, h => by have := szL_getD l i (by simpa using h); simp [Ty.szL] at *; omega
theorem sz_eq (t : Ty) : t.sz = 1 + t.name.length + szS t.names + Ty.szL t.kids := by cases t; simp [Ty.sz, Ty.name, Ty.names, Ty.kids]
theorem sz_names (t : Ty) : t.names.length < t.sz := by have := szS_len t.names; have e := sz_eq t; omega
theorem sz_kids (t : Ty) : t.kids.length < t.sz := by have := szL_len t.kids; have e := sz_eq t; omega
theorem sz_kid (t : Ty) (i : Nat) (h : i < t.kids.length) : (t.kids.getD i Ty.zero).sz < t.sz := by have := szL_getD t.kids i h; have e := sz_eq t; omega

/-! Equality of lists, place by place. -/
def zipAll {α β : Type} (p : α → β → Bool) : List α → List β → Bool
  | [], [] => true
  | x :: xs, y :: ys => p x y && zipAll p xs ys
  | _, _ => false
theorem zipAll_len {α β : Type} (p : α → β → Bool) : ∀ (a : List α) (b : List β), a.length ≠ b.length → zipAll p a b = false
  | [], [], h => absurd rfl h
  | [], _ :: _, _ => rfl
  | _ :: _, [], _ => rfl
  | x :: a, y :: b, h => by rw [zipAll, zipAll_len p a b (fun e => h (by simp [e])), Bool.and_false]
theorem zipAll_true {α β : Type} (p : α → β → Bool) (d : α) (e : β) : ∀ (a : List α) (b : List β), a.length = b.length → (∀ i, i < a.length → p (a.getD i d) (b.getD i e) = true) → zipAll p a b = true
  | [], [], _, _ => rfl
  | [], _ :: _, h, _ => by simp at h
  | _ :: _, [], h, _ => by simp at h
  | x :: a, y :: b, h, hp => by
    have h0 := hp 0 (by simp)
    simp at h0
    rw [zipAll, h0, zipAll_true p d e a b (by simpa using h) (fun i hi => by simpa using hp (i + 1) (by simpa using hi))]; rfl
theorem zipAll_at {α β : Type} (p : α → β → Bool) (d : α) (e : β) : ∀ (a : List α) (b : List β) (i : Nat), a.length = b.length → i < a.length → p (a.getD i d) (b.getD i e) = false → zipAll p a b = false
  | [], _, i, _, hi, _ => by simp at hi
  | _ :: _, [], _, h, _, _ => by simp at h
  | x :: a, y :: b, 0, _, _, hp => by simp at hp; rw [zipAll, hp]; rfl
  | x :: a, y :: b, i + 1, h, hi, hp => by rw [zipAll, zipAll_at p d e a b i (by simpa using h) (by simpa using hi) (by simpa using hp), Bool.and_false]
theorem zipAll_eq {α : Type} [BEq α] [LawfulBEq α] : ∀ (a b : List α), zipAll (· == ·) a b = (a == b)
  | [], [] => rfl
  | [], _ :: _ => rfl
  | _ :: _, [] => rfl
  | x :: a, y :: b => by rw [zipAll, zipAll_eq a b]; rfl
mutual
def Ty.beq : Ty → Ty → Bool
  | .mk k x n l ks, .mk k' x' n' l' ks' => (k == k') && ((x == x') && ((n == n') && ((l == l') && Ty.beqL ks ks')))
def Ty.beqL : List Ty → List Ty → Bool
  | [], [] => true
  | x :: xs, y :: ys => x.beq y && Ty.beqL xs ys
  | _, _ => false
end
theorem beqL_zip : ∀ a b, Ty.beqL a b = zipAll Ty.beq a b
  | [], [] => rfl
  | [], _ :: _ => rfl
  | _ :: _, [] => rfl
  | x :: a, y :: b => by rw [Ty.beqL, zipAll, beqL_zip a b]
theorem beq_eq (a b : Ty) : a.beq b = ((a.kind == b.kind) && ((a.name == b.name) && ((a.n == b.n) && ((a.names == b.names) && zipAll Ty.beq a.kids b.kids)))) := by
  cases a; cases b; simp only [Ty.beq, beqL_zip]; rfl
end Go.Proofs.YtindpcpdkikdmaaGreatDoor
