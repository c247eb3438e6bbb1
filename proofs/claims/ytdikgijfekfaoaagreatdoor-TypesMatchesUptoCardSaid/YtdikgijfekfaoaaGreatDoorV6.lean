/- fits of the reference: what it answers. Condition: types that are formed, of sizes that can be had. -/
import Derived.Test.YtdikgijfekfaoaaGreatDoorV5
set_option linter.all false
set_option linter.unusedSimpArgs false
set_option linter.unusedVariables false
namespace Go.Proofs.YtdikgijfekfaoaaGreatDoor
open Go.Proofs.YtdikgijfekfaoaaGreatDoor.Abs
set_option maxRecDepth 20000
set_option maxHeartbeats 4000000
mutual
def fT : Ty → Ty → Bd → Bool × Bd
  | .mk k x n ns ks, c, m =>
    if k = 6 then (bdOk m n c, rset m n c)
    else if ¬ k = c.kind ∨ ¬ x = c.name then (false, m)
    else if k = 4 then fT0 ks (c.kids.getD 0 Ty.zero) m
    else if (fTL ns ks c m).1 = true then
        if k = 5 ∧ ¬ n = 0 then (bdOk (fTL ns ks c m).2 n (woT c (.mk k x n ns ks) c.names.length), rset (fTL ns ks c m).2 n (woT c (.mk k x n ns ks) c.names.length))
        else (decide (c.n = 0) && decide (ns.length = c.names.length), (fTL ns ks c m).2)
    else (false, (fTL ns ks c m).2)
def fT0 : List Ty → Ty → Bd → Bool × Bd
  | [], _, m => (false, m)
  | t :: _, c, m => fT t c m
def fTL : List (List UInt8) → List Ty → Ty → Bd → Bool × Bd
  | s :: ns, t :: ks, c, m =>
    if idxS c.names s < 0 then (false, m)
    else if (fT t (c.kids.getD (idxS c.names s).toNat Ty.zero) m).1 = true then fTL ns ks c (fT t (c.kids.getD (idxS c.names s).toNat Ty.zero) m).2
    else (false, (fT t (c.kids.getD (idxS c.names s).toNat Ty.zero) m).2)
  | _, _, _, m => (true, m)
end
theorem rset_same {m : Bd} {n : Int} {t : Ty} (h : bdOk m n t = true) (hb : ∀ a b : Ty, a.beq b = true → a = b) : rset m n t = mset n t m := by
  have hn : ∀ m : Bd, mget n m = none → m ++ [(n, t)] = mset n t m := by
    intro m
    induction m with
    | nil => intro _; rfl
    | cons p m ih =>
      intro h
      rw [mget] at h
      split at h
      · cases h
      · rename_i hne
        rw [mset, if_neg hne, ← ih h]; rfl
  have hs : ∀ m : Bd, mget n m = some t → m = mset n t m := by
    intro m
    induction m with
    | nil => intro h; simp [mget] at h
    | cons p m ih =>
      intro h
      rw [mget] at h
      split at h
      · rename_i he
        cases h
        rw [mset, if_pos he, he]
      · rename_i hne
        rw [mset, if_neg hne, ← ih h]
  unfold rset
  unfold bdOk at h
  cases hg : mget n m with
  | none => exact hn m hg
  | some o =>
    rw [hg] at h
    have := hb o t h
    subst this
    exact hs m hg
/-- The plain law: match and fits answer alike, and leave the same bindings where they answer yes. -/
def okO (t : Ty) : Prop := ¬ t.kind = 5 → ¬ t.kind = 6 → t.n = 0 ∧ t.names = []
mutual
def gn : Ty → Prop
  | .mk k x n l ks => okO (.mk k x n l ks) ∧ gnL ks
def gnL : List Ty → Prop
  | [] => True
  | t :: l => gn t ∧ gnL l
end
theorem gn_ok {t : Ty} (h : gn t) : okO t := by cases t; simp only [gn] at h; exact h.1
theorem gn_kids {t : Ty} (h : gn t) : gnL t.kids := by cases t; simp only [gn] at h; exact h.2
theorem gnL_at : ∀ {l : List Ty}, gnL l → ∀ i, gn (l.getD i Ty.zero)
  | [], _, i => by simp [Ty.zero, gn, gnL, okO]
  | t :: l, h, 0 => by simp only [gnL] at h; exact h.1
  | t :: l, h, i + 1 => by simp only [gnL] at h; exact gnL_at h.2 i
theorem gdL_at' : ∀ {l : List Ty}, gdL l → ∀ i, gd (l.getD i Ty.zero)
  | [], _, i => by simpa using gd_zero
  | t :: l, h, 0 => by simp only [gdL] at h; exact h.1
  | t :: l, h, i + 1 => by simp only [gdL] at h; exact gdL_at' h.2 i
mutual
theorem same_T (hb : ∀ a b : Ty, a.beq b = true → a = b) : ∀ (t c : Ty) (m : Bd), gd t → gn t → gd c → gn c → (mT t c m).1 = (fT t c m).1 ∧ ((mT t c m).1 = true → (mT t c m).2 = (fT t c m).2)
  | .mk k x n ns ks, c, m, ht, hn, hc, hcn => by
    have hot := gn_ok hn
    have hkt := gd_kids ht
    have hnt := gn_kids hn
    rw [mT, fT]
    by_cases h6 : k = 6
    · rw [if_pos h6, if_pos h6]
      exact ⟨rfl, fun h => (rset_same h hb).symm⟩
    · rw [if_neg h6, if_neg h6]
      by_cases hne : ¬ k = c.kind ∨ ¬ x = c.name
      · rw [if_pos hne, if_pos hne]; exact ⟨rfl, fun _ => rfl⟩
      · rw [if_neg hne, if_neg hne]
        have hkc : k = c.kind := by
          by_cases e : k = c.kind
          · exact e
          · exact absurd (.inl e) hne
        by_cases h4 : k = 4
        · rw [if_neg (by omega), if_pos h4, if_pos h4]
          match ks, hkt, hnt with
          | [], _, _ => exact ⟨rfl, fun _ => rfl⟩
          | t :: l, hkt, hnt =>
            simp only [Ty.kids_mk, gdL] at hkt
            simp only [Ty.kids_mk, gnL] at hnt
            exact same_T hb t _ m hkt.1 hnt.1 (gdL_at' (gd_kids hc) 0) (gnL_at (gn_kids hcn) 0)
        · rw [if_neg h4, if_neg h4]
          have hL := same_L hb ns ks c m hkt hnt hc hcn
          by_cases h5 : k = 5
          · rw [if_pos h5]
            by_cases h1 : (mTL ns ks c m).1 = true
            · have h1' : (fTL ns ks c m).1 = true := hL.1 ▸ h1
              rw [if_pos h1, if_pos h1', ← hL.2 h1]
              have hcc := (gd_ok hc).2 (by omega)
              by_cases h0 : n = 0
              · rw [if_pos h0, if_neg (by simp [h0])]; exact ⟨rfl, fun _ => rfl⟩
              · rw [if_neg h0, if_pos ⟨h5, h0⟩, recT_wo hcc.2 hcc.1]
                exact ⟨rfl, fun h => (rset_same h hb).symm⟩
            · have h1' : ¬ (fTL ns ks c m).1 = true := hL.1 ▸ h1
              rw [if_neg h1, if_neg h1']
              exact ⟨rfl, fun h => by simp at h⟩
          · rw [if_neg h5]
            have ho := hot h5 h6
            have hoc := gn_ok hcn (by omega) (by omega)
            simp only [Ty.n_mk, Ty.names_mk] at ho
            obtain ⟨rfl, rfl⟩ := ho
            have e : fTL [] ks c m = (true, m) := by unfold fTL; rfl
            rw [e, if_pos rfl, if_neg (by simp), hoc.1, hoc.2]
            exact ⟨rfl, fun _ => rfl⟩
theorem same_L (hb : ∀ a b : Ty, a.beq b = true → a = b) : ∀ (ns : List (List UInt8)) (ks : List Ty) (c : Ty) (m : Bd), gdL ks → gnL ks → gd c → gn c → (mTL ns ks c m).1 = (fTL ns ks c m).1 ∧ ((mTL ns ks c m).1 = true → (mTL ns ks c m).2 = (fTL ns ks c m).2)
  | [], _, c, m, _, _, _, _ => by unfold mTL fTL; exact ⟨rfl, fun _ => rfl⟩
  | _ :: _, [], c, m, _, _, _, _ => by unfold mTL fTL; exact ⟨rfl, fun _ => rfl⟩
  | s :: ns, t :: ks, c, m, hg, hn, hc, hcn => by
    simp only [gdL] at hg
    simp only [gnL] at hn
    rw [mTL, fTL]
    split
    · exact ⟨rfl, fun _ => rfl⟩
    · have h1 := same_T hb t (c.kids.getD (idxS c.names s).toNat Ty.zero) m hg.1 hn.1 (gdL_at' (gd_kids hc) _) (gnL_at (gn_kids hcn) _)
      by_cases h : (mT t (c.kids.getD (idxS c.names s).toNat Ty.zero) m).1 = true
      · rw [if_pos h, if_pos (h1.1 ▸ h), ← h1.2 h]
        exact same_L hb ns ks c _ hg.2 hn.2 hc hcn
      · rw [if_neg h, if_neg (h1.1 ▸ h)]
        exact ⟨rfl, fun h => by simp at h⟩
end
end Go.Proofs.YtdikgijfekfaoaaGreatDoor
