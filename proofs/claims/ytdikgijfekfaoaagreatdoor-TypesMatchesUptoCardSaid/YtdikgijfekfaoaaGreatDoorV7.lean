/- fits of the reference, walked. Condition: types that are formed, of sizes that can be had. -/
import Derived.Test.YtdikgijfekfaoaaGreatDoorV6
set_option linter.all false
set_option linter.unusedSimpArgs false
set_option linter.unusedVariables false
namespace Go.Proofs.YtdikgijfekfaoaaGreatDoor
open Go.Proofs.YtdikgijfekfaoaaGreatDoor.Abs
set_option maxRecDepth 20000
set_option maxHeartbeats 4000000
def bdZ (m : Bd) : Prop := ∀ i, ((m.map Prod.snd).getD i Ty.zero).sz < 100000000
theorem rset_Z {m : Bd} {n : Int} {t : Ty} (hm : bdZ m) (ht : t.sz < 100000000) : bdZ (rset m n t) := by
  unfold rset
  split
  · intro i
    rw [List.map_append, List.getD_eq_getElem?_getD]
    by_cases hi : i < (m.map Prod.snd).length
    · rw [List.getElem?_append_left hi, ← List.getD_eq_getElem?_getD]; exact hm i
    · rw [List.getElem?_append_right (by omega), ← List.getD_eq_getElem?_getD]
      cases i - (m.map Prod.snd).length with
      | zero => exact ht
      | succ j => simp [Ty.zero, Ty.sz, szS, Ty.szL]
  · exact hm
theorem rset_L (m : Bd) (n : Int) (t : Ty) : (rset m n t).length ≤ m.length + 1 := by
  unfold rset
  split
  · simp
  · omega
theorem kid_Z {c : Ty} (hc : c.sz < 100000000) (i : Nat) : (c.kids.getD i Ty.zero).sz < 100000000 := by
  by_cases h : i < c.kids.length
  · exact Nat.lt_trans (sz_kid c i h) hc
  · rw [List.getD_eq_getElem?_getD, List.getElem?_eq_none (by omega)]; simp [Ty.zero, Ty.sz, szS, Ty.szL]
mutual
theorem fT_Z : ∀ (t c : Ty) (m : Bd), gd c → c.sz < 100000000 → bdZ m → bdZ (fT t c m).2 ∧ (fT t c m).2.length ≤ m.length + t.sz
  | .mk k x n ns ks, c, m, hc, hs, hm => by
    have hL := fTL_Z ns ks c m hc hs hm
    rw [fT]
    simp only [Ty.sz]
    split
    · exact ⟨rset_Z hm hs, by have := rset_L m n c; simp only; omega⟩
    · split
      · exact ⟨hm, by simp only; omega⟩
      · rename_i h1 h2
        split
        · match ks with
          | [] => exact ⟨hm, by simp only [fT0]; omega⟩
          | t :: l =>
            have := fT_Z t (c.kids.getD 0 Ty.zero) m (gdL_at' (gd_kids hc) 0) (kid_Z hs 0) hm
            exact ⟨this.1, by simp only [fT0, Ty.szL]; omega⟩
        · split
          · split
            · rename_i h5
              have hc5 : c.kind = 5 := by
                by_cases e : k = c.kind
                · omega
                · exact absurd (.inl e) h2
              have hcc := (gd_ok hc).2 hc5
              refine ⟨rset_Z hL.1 (Nat.lt_of_le_of_lt (woT_sz hcc.1 _) hs), ?_⟩
              have := rset_L (fTL ns ks c m).2 n (woT c (.mk k x n ns ks) c.names.length)
              simp only; omega
            · exact ⟨hL.1, by simp only; omega⟩
          · exact ⟨hL.1, by simp only; omega⟩
theorem fTL_Z : ∀ (ns : List (List UInt8)) (ks : List Ty) (c : Ty) (m : Bd), gd c → c.sz < 100000000 → bdZ m → bdZ (fTL ns ks c m).2 ∧ (fTL ns ks c m).2.length ≤ m.length + Ty.szL ks
  | [], _, c, m, _, _, hm => by unfold fTL; exact ⟨hm, by simp only; omega⟩
  | _ :: _, [], c, m, _, _, hm => by unfold fTL; exact ⟨hm, by simp only; omega⟩
  | s :: ns, t :: ks, c, m, hc, hs, hm => by
    have h1 := fT_Z t (c.kids.getD (idxS c.names s).toNat Ty.zero) m (gdL_at' (gd_kids hc) _) (kid_Z hs _) hm
    rw [fTL]
    simp only [Ty.szL]
    split
    · exact ⟨hm, by simp only; omega⟩
    · split
      · have := fTL_Z ns ks c _ hc hs h1.1
        exact ⟨this.1, by omega⟩
      · exact ⟨h1.1, by simp only; omega⟩
end
theorem fTL_step {t c : Ty} {k : Nat} {q : Bd} (h : k < t.names.length) (hnk : t.names.length ≤ t.kids.length) : fTL (t.names.drop k) (t.kids.drop k) c q =
    if idxS c.names (t.names.getD k []) < 0 then (false, q)
    else if (fT (t.kids.getD k Ty.zero) (c.kids.getD (idxS c.names (t.names.getD k [])).toNat Ty.zero) q).1 = true then fTL (t.names.drop (k + 1)) (t.kids.drop (k + 1)) c (fT (t.kids.getD k Ty.zero) (c.kids.getD (idxS c.names (t.names.getD k [])).toNat Ty.zero) q).2
    else (false, (fT (t.kids.getD k Ty.zero) (c.kids.getD (idxS c.names (t.names.getD k [])).toNat Ty.zero) q).2) := by
  rw [drop_at (d := []) h, drop_at (l := t.kids) (d := Ty.zero) (by omega), fTL]
theorem fTL_end {t c : Ty} {k : Nat} {q : Bd} (h : t.names.length ≤ k) : fTL (t.names.drop k) (t.kids.drop k) c q = (true, q) := by
  rw [List.drop_of_length_le h]; unfold fTL; rfl
theorem fT_6 {t c : Ty} {m : Bd} (h : t.kind = 6) : fT t c m = (bdOk m t.n c, rset m t.n c) := by cases t; simp only [Ty.kind_mk] at h; rw [fT, if_pos h]; rfl
theorem fT_ne {t c : Ty} {m : Bd} (h6 : ¬ t.kind = 6) (h : ¬ t.kind = c.kind ∨ ¬ t.name = c.name) : fT t c m = (false, m) := by cases t; simp only [Ty.kind_mk, Ty.name_mk] at h6 h; rw [fT, if_neg h6, if_pos h]
theorem fT_4 {t c : Ty} {m : Bd} (h4 : t.kind = 4) (h : ¬ (¬ t.kind = c.kind ∨ ¬ t.name = c.name)) (hl : 0 < t.kids.length) : fT t c m = fT (t.kids.getD 0 Ty.zero) (c.kids.getD 0 Ty.zero) m := by
  obtain ⟨k, x, n, ns, ks⟩ := t
  simp only [Ty.kind_mk, Ty.name_mk, Ty.kids_mk] at h4 h hl ⊢
  rw [fT, if_neg (by omega), if_neg h, if_pos h4]
  cases ks with
  | nil => simp at hl
  | cons a l => rfl
theorem fT_a {t c : Ty} {m r : Bd} (h6 : ¬ t.kind = 6) (h : ¬ (¬ t.kind = c.kind ∨ ¬ t.name = c.name)) (h4 : ¬ t.kind = 4) (hL : fTL t.names t.kids c m = (false, r)) : fT t c m = (false, r) := by
  cases t; simp only [Ty.kind_mk, Ty.name_mk, Ty.names_mk, Ty.kids_mk] at h6 h h4 hL; rw [fT, if_neg h6, if_neg h, if_neg h4, hL, if_neg (by simp)]
theorem fT_b {t c : Ty} {m r : Bd} (h6 : ¬ t.kind = 6) (h : ¬ (¬ t.kind = c.kind ∨ ¬ t.name = c.name)) (h4 : ¬ t.kind = 4) (hL : fTL t.names t.kids c m = (true, r)) (h5 : t.kind = 5) (hn : ¬ t.n = 0) : fT t c m = (bdOk r t.n (woT c t c.names.length), rset r t.n (woT c t c.names.length)) := by
  cases t; simp only [Ty.kind_mk, Ty.name_mk, Ty.names_mk, Ty.kids_mk, Ty.n_mk] at h6 h h4 hL h5 hn ⊢; rw [fT, if_neg h6, if_neg h, if_neg h4, hL, if_pos rfl, if_pos ⟨h5, hn⟩]
theorem fT_c {t c : Ty} {m r : Bd} (h6 : ¬ t.kind = 6) (h : ¬ (¬ t.kind = c.kind ∨ ¬ t.name = c.name)) (h4 : ¬ t.kind = 4) (hL : fTL t.names t.kids c m = (true, r)) (h5 : ¬ (t.kind = 5 ∧ ¬ t.n = 0)) : fT t c m = (decide (c.n = 0) && decide (t.names.length = c.names.length), r) := by
  cases t; simp only [Ty.kind_mk, Ty.name_mk, Ty.names_mk, Ty.kids_mk, Ty.n_mk] at h6 h h4 hL h5 ⊢; rw [fT, if_neg h6, if_neg h, if_neg h4, hL, if_pos rfl, if_neg h5]; rfl
end Go.Proofs.YtdikgijfekfaoaaGreatDoor
