/- Schemas as plain data, and what Equal says of them. No condition. -/
import Derived.Test.YtindpcpdkikdmaaGreatDoorC4
set_option linter.all false
namespace Go.Proofs.YtindpcpdkikdmaaGreatDoor
open Go.Proofs.YtindpcpdkikdmaaGreatDoor.Abs
structure Ct where
  name : List UInt8
  has : Bool
  arg : Ty
structure Co where
  name : List UInt8
  type : Ty
structure Rf where
  col : List UInt8
  tab : List UInt8
structure Sm where
  name : List UInt8
  ctors : List Ct
structure Tb where
  name : List UInt8
  cols : List Co
  key : List (List UInt8)
  refs : List Rf
  chk : Ex
structure Sc where
  sums : List Sm
  tabs : List Tb
def Ct.zero : Ct := ⟨[], false, Ty.zero⟩
def Co.zero : Co := ⟨[], Ty.zero⟩
def Rf.zero : Rf := ⟨[], []⟩
def Sm.zero : Sm := ⟨[], []⟩
def Tb.zero : Tb := ⟨[], [], [], [], Ex.zero⟩
abbrev Ty.cs (t : Ty) : List AVal := [.int .i64 t.kind, .str t.name, .int .i64 t.n, .imm (t.names.map .str), .imm (t.kids.map Ty.enc)]
def Ct.v (c : Ct) : AVal := .agg [.str c.name, .bool c.has, .int .i64 c.arg.kind, .str c.arg.name, .int .i64 c.arg.n, .imm (c.arg.names.map .str), .imm (c.arg.kids.map Ty.enc)]
def Co.v (c : Co) : AVal := .agg [.str c.name, .int .i64 c.type.kind, .str c.type.name, .int .i64 c.type.n, .imm (c.type.names.map .str), .imm (c.type.kids.map Ty.enc)]
def Rf.v (r : Rf) : AVal := .agg [.str r.col, .str r.tab]
def Sm.v (s : Sm) : AVal := .agg [.str s.name, .imm (s.ctors.map Ct.v)]
def Tb.v (t : Tb) : AVal := .agg [.str t.name, .imm (t.cols.map Co.v), .imm (t.key.map .str), .imm (t.refs.map Rf.v), .int .i64 t.chk.kind, .str t.chk.name, .int .i64 t.chk.n, .str t.chk.s, .imm (t.chk.names.map .str), .imm (t.chk.binds.map .str), .imm (t.chk.kids.map Ex.enc), .int .i64 t.chk.pos, .int .i64 t.chk.fin]
def Sc.v (s : Sc) : AVal := .agg [.imm (s.sums.map Sm.v), .imm (s.tabs.map Tb.v)]
@[simp] theorem Ct.frz_v (h : AHeap) (c : Ct) : c.v.frz h = c.v := by simp [Ct.v, AVal.frz, frzL]
@[simp] theorem Ct.bel_v (k : Nat) (c : Ct) : c.v.bel k = true := by simp [Ct.v, AVal.bel, belL]
@[simp] theorem Ct.owns_v (c : Ct) : c.v.owns = [] := by simp [Ct.v, AVal.owns, ownsL]
@[simp] theorem frzL_cts (h : AHeap) (l : List Ct) : frzL h (l.map Ct.v) = l.map Ct.v := frzL_map_same h (Ct.frz_v h) l
@[simp] theorem belL_cts (k : Nat) (l : List Ct) : belL k (l.map Ct.v) = true := belL_map k (Ct.bel_v k) l
@[simp] theorem ownsL_cts (l : List Ct) : ownsL (l.map Ct.v) = [] := ownsL_map Ct.owns_v l
@[simp] theorem Co.frz_v (h : AHeap) (c : Co) : c.v.frz h = c.v := by simp [Co.v, AVal.frz, frzL]
@[simp] theorem Co.bel_v (k : Nat) (c : Co) : c.v.bel k = true := by simp [Co.v, AVal.bel, belL]
@[simp] theorem Co.owns_v (c : Co) : c.v.owns = [] := by simp [Co.v, AVal.owns, ownsL]
@[simp] theorem frzL_cos (h : AHeap) (l : List Co) : frzL h (l.map Co.v) = l.map Co.v := frzL_map_same h (Co.frz_v h) l
@[simp] theorem belL_cos (k : Nat) (l : List Co) : belL k (l.map Co.v) = true := belL_map k (Co.bel_v k) l
@[simp] theorem ownsL_cos (l : List Co) : ownsL (l.map Co.v) = [] := ownsL_map Co.owns_v l
@[simp] theorem Rf.frz_v (h : AHeap) (c : Rf) : c.v.frz h = c.v := by simp [Rf.v, AVal.frz, frzL]
@[simp] theorem Rf.bel_v (k : Nat) (c : Rf) : c.v.bel k = true := by simp [Rf.v, AVal.bel, belL]
@[simp] theorem Rf.owns_v (c : Rf) : c.v.owns = [] := by simp [Rf.v, AVal.owns, ownsL]
@[simp] theorem frzL_rfs (h : AHeap) (l : List Rf) : frzL h (l.map Rf.v) = l.map Rf.v := frzL_map_same h (Rf.frz_v h) l
@[simp] theorem belL_rfs (k : Nat) (l : List Rf) : belL k (l.map Rf.v) = true := belL_map k (Rf.bel_v k) l
@[simp] theorem ownsL_rfs (l : List Rf) : ownsL (l.map Rf.v) = [] := ownsL_map Rf.owns_v l
@[simp] theorem Sm.frz_v (h : AHeap) (c : Sm) : c.v.frz h = c.v := by simp [Sm.v, AVal.frz, frzL]
@[simp] theorem Sm.bel_v (k : Nat) (c : Sm) : c.v.bel k = true := by simp [Sm.v, AVal.bel, belL]
@[simp] theorem Sm.owns_v (c : Sm) : c.v.owns = [] := by simp [Sm.v, AVal.owns, ownsL]
@[simp] theorem frzL_sms (h : AHeap) (l : List Sm) : frzL h (l.map Sm.v) = l.map Sm.v := frzL_map_same h (Sm.frz_v h) l
@[simp] theorem belL_sms (k : Nat) (l : List Sm) : belL k (l.map Sm.v) = true := belL_map k (Sm.bel_v k) l
@[simp] theorem ownsL_sms (l : List Sm) : ownsL (l.map Sm.v) = [] := ownsL_map Sm.owns_v l
@[simp] theorem Tb.frz_v (h : AHeap) (c : Tb) : c.v.frz h = c.v := by simp [Tb.v, AVal.frz, frzL]
@[simp] theorem Tb.bel_v (k : Nat) (c : Tb) : c.v.bel k = true := by simp [Tb.v, AVal.bel, belL]
@[simp] theorem Tb.owns_v (c : Tb) : c.v.owns = [] := by simp [Tb.v, AVal.owns, ownsL]
@[simp] theorem frzL_tbs (h : AHeap) (l : List Tb) : frzL h (l.map Tb.v) = l.map Tb.v := frzL_map_same h (Tb.frz_v h) l
@[simp] theorem belL_tbs (k : Nat) (l : List Tb) : belL k (l.map Tb.v) = true := belL_map k (Tb.bel_v k) l
@[simp] theorem ownsL_tbs (l : List Tb) : ownsL (l.map Tb.v) = [] := ownsL_map Tb.owns_v l
@[simp] theorem Sc.frz_v (h : AHeap) (c : Sc) : c.v.frz h = c.v := by simp [Sc.v, AVal.frz, frzL]
@[simp] theorem Sc.bel_v (k : Nat) (c : Sc) : c.v.bel k = true := by simp [Sc.v, AVal.bel, belL]
@[simp] theorem Sc.owns_v (c : Sc) : c.v.owns = [] := by simp [Sc.v, AVal.owns, ownsL]
def Ct.beq (a b : Ct) : Bool := (a.name == b.name) && ((a.has == b.has) && a.arg.beq b.arg)
def Co.beq (a b : Co) : Bool := (a.name == b.name) && a.type.beq b.type
def Rf.beq (a b : Rf) : Bool := (a.col == b.col) && (a.tab == b.tab)
def Sm.beq (a b : Sm) : Bool := (a.name == b.name) && zipAll Ct.beq a.ctors b.ctors
def Tb.beq (a b : Tb) : Bool := (a.name == b.name) && (zipAll Co.beq a.cols b.cols && ((a.key == b.key) && (zipAll Rf.beq a.refs b.refs && a.chk.beq b.chk)))
def Sc.beq (a b : Sc) : Bool := zipAll Sm.beq a.sums b.sums && zipAll Tb.beq a.tabs b.tabs
/-! Sizes that can be had. -/
def Ct.sm (c : Ct) : Prop := c.arg.sz < 100000000
def Co.sm (c : Co) : Prop := c.type.sz < 100000000
def Sm.sm (s : Sm) : Prop := s.ctors.length < 1000000000 ∧ ∀ c ∈ s.ctors, c.sm
def Tb.sm (t : Tb) : Prop := t.cols.length < 1000000000 ∧ (∀ c ∈ t.cols, c.sm) ∧ t.key.length < 1000000000 ∧ t.refs.length < 1000000000 ∧ t.chk.sz < 100000000
def Sc.sm (s : Sc) : Prop := s.sums.length < 1000000000 ∧ (∀ x ∈ s.sums, x.sm) ∧ s.tabs.length < 1000000000 ∧ ∀ x ∈ s.tabs, x.sm
theorem getD_mem {α : Type} (l : List α) (d : α) (i : Nat) (h : i < l.length) : l.getD i d ∈ l := by
  rw [List.getD_eq_getElem?_getD, List.getElem?_eq_getElem h]; exact List.getElem_mem h
theorem ct_cells (c : Ct) : (Ct.v c).cells = [.str c.name, .bool c.has, .int .i64 c.arg.kind, .str c.arg.name, .int .i64 c.arg.n, .imm (c.arg.names.map .str), .imm (c.arg.kids.map Ty.enc)] := rfl
theorem co_cells (c : Co) : (Co.v c).cells = [.str c.name, .int .i64 c.type.kind, .str c.type.name, .int .i64 c.type.n, .imm (c.type.names.map .str), .imm (c.type.kids.map Ty.enc)] := rfl
theorem rf_cells (r : Rf) : (Rf.v r).cells = [.str r.col, .str r.tab] := rfl
theorem sm_cells (s : Sm) : (Sm.v s).cells = [.str s.name, .imm (s.ctors.map Ct.v)] := rfl
theorem tb_cells (t : Tb) : (Tb.v t).cells = [.str t.name, .imm (t.cols.map Co.v), .imm (t.key.map .str), .imm (t.refs.map Rf.v), .int .i64 t.chk.kind, .str t.chk.name, .int .i64 t.chk.n, .str t.chk.s, .imm (t.chk.names.map .str), .imm (t.chk.binds.map .str), .imm (t.chk.kids.map Ex.enc), .int .i64 t.chk.pos, .int .i64 t.chk.fin] := rfl
end Go.Proofs.YtindpcpdkikdmaaGreatDoor
