/- The plain law of only and without. Condition: names in order. -/
import Derived.Test.YtdikgijfekfaoaaGreatDoorV2
set_option linter.all false
set_option linter.unusedSimpArgs false
set_option linter.unusedVariables false
namespace Go.Proofs.YtdikgijfekfaoaaGreatDoor
open Go.Proofs.YtdikgijfekfaoaaGreatDoor.Abs
theorem sSort_id {l : List (List UInt8)} (h : l.Pairwise (fun a b => a < b)) : sSort l = l := by
  refine List.Perm.eq_of_pairwise (le := fun a b => leB a b = true) (fun a b _ _ h1 h2 => ?_) (sSort_sorted l) (h.imp fun {a b} hab => ?_) (sSort_perm l)
  · simp only [leB, decide_eq_true_eq] at h1 h2
    exact List.le_antisymm h1 h2
  · simp only [leB, decide_eq_true_eq]; exact List.le_of_lt hab
theorem mset_new {s : List UInt8} {x : Ty} : ∀ {l : Fd}, s ∉ l.map Prod.fst → mset s x l = l ++ [(s, x)]
  | [], _ => rfl
  | p :: l, h => by
    simp only [List.map_cons, List.mem_cons, not_or] at h
    rw [mset, if_neg h.1, mset_new h.2]; rfl
theorem nodup_getD {l : List (List UInt8)} (h : l.Nodup) {i k : Nat} (hi : i < k) (hk : k < l.length) : ¬ l.getD k [] = l.getD i [] := by
  rw [List.getD_eq_getElem?_getD, List.getD_eq_getElem?_getD, List.getElem?_eq_getElem hk, List.getElem?_eq_getElem (by omega : i < l.length)]
  intro e
  have := (List.getElem_inj h).1 (show l[k] = l[i] from e)
  omega
theorem onL_wo {c t : Ty} (hnd : c.names.Nodup) (hnk : c.names.length = c.kids.length) : ∀ k, k ≤ c.names.length → onL c t k = woL c t k
  | 0, _ => by simp [onL, woL]
  | k + 1, hk => by
    have ih := onL_wo (t := t) hnd hnk k (by omega)
    rw [woL_succ (by omega) hnk, onL, ih]
    have hc := idxS_contains t.names (c.names.getD k [])
    by_cases hx : idxS t.names (c.names.getD k []) < 0
    · rw [if_pos hx, if_neg (by rw [← hc, decide_eq_true_eq]; omega)]
      refine mset_new ?_
      intro hm
      rw [← ih] at hm
      obtain ⟨i, hi, e⟩ := (onL_keys c t k).2.2 _ hm
      exact nodup_getD hnd hi (by omega) e
    · rw [if_neg hx, if_pos (by rw [← hc, decide_eq_true_eq]; omega), List.append_nil]
theorem mget_keys : ∀ {l : Fd}, (l.map Prod.fst).Nodup → (l.map Prod.fst).map (fun s => (mget s l).getD Ty.zero) = l.map Prod.snd
  | [], _ => rfl
  | p :: l, h => by
    simp only [List.map_cons, List.nodup_cons] at h ⊢
    rw [mget, if_pos rfl, ← mget_keys h.2]
    refine congrArg (p.2 :: ·) (List.map_congr_left fun s hs => ?_)
    rw [mget, if_neg (by rintro rfl; exact h.1 hs)]
theorem woL_sub (c t : Ty) (k : Nat) : (woL c t k).Sublist (c.names.zip c.kids) := List.filter_sublist.trans (List.take_sublist _ _)
theorem zip_fst : ∀ {a : List (List UInt8)} {b : List Ty}, a.length = b.length → (a.zip b).map Prod.fst = a
  | [], _, _ => rfl
  | x :: a, y :: b, h => by simp only [List.zip_cons_cons, List.map_cons, zip_fst (a := a) (b := b) (by simpa using h)]
  | x :: a, [], h => by simp at h
theorem zip_snd : ∀ {a : List (List UInt8)} {b : List Ty}, a.length = b.length → (a.zip b).map Prod.snd = b
  | [], [], _ => rfl
  | [], y :: b, h => by simp at h
  | x :: a, y :: b, h => by simp only [List.zip_cons_cons, List.map_cons, zip_snd (a := a) (b := b) (by simpa using h)]
  | x :: a, [], h => by simp at h
theorem recT_wo {c t : Ty} (hs : c.names.Pairwise (fun a b => a < b)) (hnk : c.names.length = c.kids.length) : recT (onL c t c.names.length) c.n = woT c t c.names.length := by
  have hnd : c.names.Nodup := hs.imp fun {a b} h => by rintro rfl; exact absurd h (List.lt_irrefl a)
  rw [onL_wo hnd hnk _ (Nat.le_refl _)]
  have hsub : ((woL c t c.names.length).map Prod.fst).Sublist c.names := by
    have := (woL_sub c t c.names.length).map Prod.fst
    rwa [zip_fst hnk] at this
  have e := sSort_id (hs.sublist hsub)
  unfold recT woT recK
  rw [e, List.take_length, mget_keys (hnd.sublist hsub)]
theorem szS_sub {a b : List (List UInt8)} (h : a.Sublist b) : szS a ≤ szS b := by
  induction h with
  | slnil => exact Nat.le_refl _
  | cons x _ ih => simp only [szS]; omega
  | cons_cons x _ ih => simp only [szS]; omega
theorem szL_sub {a b : List Ty} (h : a.Sublist b) : Ty.szL a ≤ Ty.szL b := by
  induction h with
  | slnil => exact Nat.le_refl _
  | cons x _ ih => simp only [Ty.szL]; omega
  | cons_cons x _ ih => simp only [Ty.szL]; omega
theorem woT_sz {c t : Ty} (hnk : c.names.length = c.kids.length) (k : Nat) : (woT c t k).sz ≤ c.sz := by
  have h1 := szS_sub ((woL_sub c t k).map Prod.fst)
  have h2 := szL_sub ((woL_sub c t k).map Prod.snd)
  rw [zip_fst hnk] at h1
  rw [zip_snd hnk] at h2
  have e := sz_eq c
  simp only [woT, Ty.sz, List.length_nil]
  omega
end Go.Proofs.YtdikgijfekfaoaaGreatDoor
