/- match of package types. Condition: types that are formed, of sizes that can be had. -/
import Derived.Test.YtdikgijfekfaoaaGreatDoorV3
set_option linter.all false
set_option linter.unusedSimpArgs false
set_option linter.unusedVariables false
namespace Go.Proofs.YtdikgijfekfaoaaGreatDoor
open Go.Proofs.YtdikgijfekfaoaaGreatDoor.Abs
set_option maxRecDepth 20000
set_option maxHeartbeats 4000000
/-- What the parts of a formed type keep. -/
def okN (t : Ty) : Prop := (t.kind = 4 → t.kids.length = 1) ∧ (t.kind = 5 → t.names.length = t.kids.length ∧ t.names.Pairwise (fun a b => a < b))
mutual
def gd : Ty → Prop
  | .mk k x n l ks => okN (.mk k x n l ks) ∧ gdL ks
def gdL : List Ty → Prop
  | [] => True
  | t :: l => gd t ∧ gdL l
end
theorem gd_ok {t : Ty} (h : gd t) : okN t := by cases t; simp only [gd] at h; exact h.1
theorem gd_kids {t : Ty} (h : gd t) : gdL t.kids := by cases t; simp only [gd] at h; exact h.2
theorem gdL_at : ∀ {l : List Ty}, gdL l → ∀ i, i < l.length → gd (l.getD i Ty.zero)
  | [], _, i, hi => by simp at hi
  | t :: l, h, 0, _ => by simp only [gdL] at h; exact h.1
  | t :: l, h, i + 1, hi => by simp only [gdL] at h; exact gdL_at h.2 i (by simpa using hi)
theorem gd_zero : gd Ty.zero := by simp [Ty.zero, gd, gdL, okN]
theorem gd_at {t : Ty} (h : gd t) (i : Nat) (hi : i < t.kids.length) : gd (t.kids.getD i Ty.zero) := gdL_at (gd_kids h) i hi
mutual
def mT : Ty → Ty → Bd → Bool × Bd
  | .mk k x n ns ks, c, m =>
    if k = 6 then (bdOk m n c, mset n c m)
    else if ¬ k = c.kind ∨ ¬ x = c.name then (false, m)
    else if k = 5 then
      if (mTL ns ks c m).1 = true then
        if n = 0 then (decide (c.n = 0) && decide (ns.length = c.names.length), (mTL ns ks c m).2)
        else (bdOk (mTL ns ks c m).2 n (recT (onL c (.mk k x n ns ks) c.names.length) c.n), mset n (recT (onL c (.mk k x n ns ks) c.names.length) c.n) (mTL ns ks c m).2)
      else (false, (mTL ns ks c m).2)
    else if k = 4 then mT0 ks (c.kids.getD 0 Ty.zero) m
    else (true, m)
def mT0 : List Ty → Ty → Bd → Bool × Bd
  | [], _, m => (false, m)
  | t :: _, c, m => mT t c m
def mTL : List (List UInt8) → List Ty → Ty → Bd → Bool × Bd
  | s :: ns, t :: ks, c, m =>
    if idxS c.names s < 0 then (false, m)
    else if (mT t (c.kids.getD (idxS c.names s).toNat Ty.zero) m).1 = true then mTL ns ks c (mT t (c.kids.getD (idxS c.names s).toNat Ty.zero) m).2
    else (false, (mT t (c.kids.getD (idxS c.names s).toNat Ty.zero) m).2)
  | _, _, _, m => (true, m)
end
theorem mT_6 {t c : Ty} {m : Bd} (h : t.kind = 6) : mT t c m = (bdOk m t.n c, mset t.n c m) := by cases t; simp only [Ty.kind_mk] at h; rw [mT, if_pos h]; rfl
theorem mT_ne {t c : Ty} {m : Bd} (h6 : ¬ t.kind = 6) (h : ¬ t.kind = c.kind ∨ ¬ t.name = c.name) : mT t c m = (false, m) := by cases t; simp only [Ty.kind_mk, Ty.name_mk] at h6 h; rw [mT, if_neg h6, if_pos h]
theorem mT_5f {t c : Ty} {m : Bd} (h5 : t.kind = 5) (h : ¬ (¬ t.kind = c.kind ∨ ¬ t.name = c.name)) (hf : ¬ (mTL t.names t.kids c m).1 = true) : mT t c m = (false, (mTL t.names t.kids c m).2) := by
  cases t; simp only [Ty.kind_mk, Ty.name_mk, Ty.names_mk, Ty.kids_mk] at h5 h hf ⊢; rw [mT, if_neg (by omega), if_neg h, if_pos h5, if_neg hf]
theorem mT_5n {t c : Ty} {m : Bd} (h5 : t.kind = 5) (h : ¬ (¬ t.kind = c.kind ∨ ¬ t.name = c.name)) (hf : (mTL t.names t.kids c m).1 = true) (hn : ¬ t.n = 0) : mT t c m = (bdOk (mTL t.names t.kids c m).2 t.n (recT (onL c t c.names.length) c.n), mset t.n (recT (onL c t c.names.length) c.n) (mTL t.names t.kids c m).2) := by
  cases t; simp only [Ty.kind_mk, Ty.name_mk, Ty.names_mk, Ty.kids_mk, Ty.n_mk] at h5 h hf hn ⊢; rw [mT, if_neg (by omega), if_neg h, if_pos h5, if_pos hf, if_neg hn]
theorem mT_5z {t c : Ty} {m : Bd} (h5 : t.kind = 5) (h : ¬ (¬ t.kind = c.kind ∨ ¬ t.name = c.name)) (hf : (mTL t.names t.kids c m).1 = true) (hn : t.n = 0) : mT t c m = (decide (c.n = 0) && decide (t.names.length = c.names.length), (mTL t.names t.kids c m).2) := by
  cases t; simp only [Ty.kind_mk, Ty.name_mk, Ty.names_mk, Ty.kids_mk, Ty.n_mk] at h5 h hf hn ⊢; rw [mT, if_neg (by omega), if_neg h, if_pos h5, if_pos hf, if_pos hn]; rfl
theorem mT_4 {t c : Ty} {m : Bd} (h4 : t.kind = 4) (h : ¬ (¬ t.kind = c.kind ∨ ¬ t.name = c.name)) (hl : 0 < t.kids.length) : mT t c m = mT (t.kids.getD 0 Ty.zero) (c.kids.getD 0 Ty.zero) m := by
  obtain ⟨k, x, n, ns, ks⟩ := t
  simp only [Ty.kind_mk, Ty.name_mk, Ty.kids_mk] at h4 h hl ⊢
  rw [mT, if_neg (by omega), if_neg h, if_neg (by omega), if_pos h4]
  cases ks with
  | nil => simp at hl
  | cons a l => rfl
theorem mT_o {t c : Ty} {m : Bd} (h6 : ¬ t.kind = 6) (h : ¬ (¬ t.kind = c.kind ∨ ¬ t.name = c.name)) (h5 : ¬ t.kind = 5) (h4 : ¬ t.kind = 4) : mT t c m = (true, m) := by
  cases t; simp only [Ty.kind_mk, Ty.name_mk] at h6 h h5 h4; rw [mT, if_neg h6, if_neg h, if_neg h5, if_neg h4]
theorem drop_at {α : Type} {l : List α} {k : Nat} {d : α} (h : k < l.length) : l.drop k = l.getD k d :: l.drop (k + 1) := by
  rw [List.drop_eq_getElem_cons h, List.getD_eq_getElem?_getD, List.getElem?_eq_getElem h]; rfl
theorem mTL_step {t c : Ty} {k : Nat} {q : Bd} (h : k < t.names.length) (hnk : t.names.length = t.kids.length) : mTL (t.names.drop k) (t.kids.drop k) c q =
    if idxS c.names (t.names.getD k []) < 0 then (false, q)
    else if (mT (t.kids.getD k Ty.zero) (c.kids.getD (idxS c.names (t.names.getD k [])).toNat Ty.zero) q).1 = true then mTL (t.names.drop (k + 1)) (t.kids.drop (k + 1)) c (mT (t.kids.getD k Ty.zero) (c.kids.getD (idxS c.names (t.names.getD k [])).toNat Ty.zero) q).2
    else (false, (mT (t.kids.getD k Ty.zero) (c.kids.getD (idxS c.names (t.names.getD k [])).toNat Ty.zero) q).2) := by
  rw [drop_at (d := []) h, drop_at (l := t.kids) (d := Ty.zero) (by omega), mTL]
theorem mTL_end {t c : Ty} {k : Nat} {q : Bd} (h : t.names.length ≤ k) : mTL (t.names.drop k) (t.kids.drop k) c q = (true, q) := by
  rw [List.drop_of_length_le h]; unfold mTL; rfl
theorem sm_mset {m : Bd} (hm : bdSm m) {n : Int} {t : Ty} (ht : t.sz < 100000000) : bdSm (mset n t m) := by
  intro k x h
  rw [mget_mset] at h
  split at h
  · cases h; exact ht
  · exact hm k x h
mutual
theorem sm_mT : ∀ (t c : Ty) (m : Bd), gd c → c.sz < 100000000 → bdSm m → bdSm (mT t c m).2
  | .mk k x n ns ks, c, m, hc, hs, hm => by
    rw [mT]
    split
    · exact sm_mset hm hs
    · split
      · exact hm
      · rename_i h1 h2
        split
        · rename_i h5
          have hc5 : c.kind = 5 := by
            by_cases e : k = c.kind
            · omega
            · exact absurd (.inl e) h2
          have hL := sm_mTL ns ks c m hc hs hm
          split
          · split
            · exact hL
            · refine sm_mset hL ?_
              have := (gd_ok hc).2 hc5
              rw [recT_wo this.2 this.1]
              exact Nat.lt_of_le_of_lt (woT_sz this.1 _) hs
          · exact hL
        · split
          · match ks with
            | [] => exact hm
            | t :: l =>
              by_cases h0 : 0 < c.kids.length
              · exact sm_mT t (c.kids.getD 0 Ty.zero) m (gd_at hc 0 h0) (Nat.lt_trans (sz_kid c 0 h0) hs) hm
              · have e : c.kids.getD 0 Ty.zero = Ty.zero := by rw [List.getD_eq_getElem?_getD, List.getElem?_eq_none (by omega)]; rfl
                rw [mT0, e]
                exact sm_mT t Ty.zero m gd_zero (by simp [Ty.zero, Ty.sz, szS, Ty.szL]) hm
          · exact hm
theorem sm_mTL : ∀ (ns : List (List UInt8)) (ks : List Ty) (c : Ty) (m : Bd), gd c → c.sz < 100000000 → bdSm m → bdSm (mTL ns ks c m).2
  | [], _, c, m, _, _, hm => by unfold mTL; exact hm
  | _ :: _, [], c, m, _, _, hm => by unfold mTL; exact hm
  | s :: ns, t :: ks, c, m, hc, hs, hm => by
    rw [mTL]
    split
    · exact hm
    · have hk : gd (c.kids.getD (idxS c.names s).toNat Ty.zero) ∧ (c.kids.getD (idxS c.names s).toNat Ty.zero).sz < 100000000 := by
        by_cases h0 : (idxS c.names s).toNat < c.kids.length
        · exact ⟨gd_at hc _ h0, Nat.lt_trans (sz_kid c _ h0) hs⟩
        · rw [List.getD_eq_getElem?_getD, List.getElem?_eq_none (by omega)]
          exact ⟨gd_zero, by simp [Ty.zero, Ty.sz, szS, Ty.szL]⟩
      have h1 := sm_mT t (c.kids.getD (idxS c.names s).toNat Ty.zero) m hk.1 hk.2 hm
      split
      · exact sm_mTL ns ks c _ hc hs h1
      · exact h1
end
end Go.Proofs.YtdikgijfekfaoaaGreatDoor
