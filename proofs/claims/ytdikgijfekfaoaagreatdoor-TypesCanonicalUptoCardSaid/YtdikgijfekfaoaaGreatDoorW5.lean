/- The plain law of Canonical: both packages answer alike, the answer stays, and no numbering of the variables changes it. No condition. -/
import Derived.Test.YtdikgijfekfaoaaGreatDoorW4
import Derived.Test.YtdikgijfekfaoaaGreatDoorAbsc
set_option linter.all false
set_option linter.unusedSimpArgs false
set_option linter.unusedVariables false
namespace Go.Proofs.YtdikgijfekfaoaaGreatDoor
open Go.Proofs.YtdikgijfekfaoaaGreatDoor.Abs
def occN (t : Ty) : List Int := (occs t).map Occ.n
def occNL (l : List Ty) : List Int := (occsL l).map Occ.n
theorem occNL_cons (t : Ty) (l : List Ty) : occNL (t :: l) = occN t ++ occNL l := by simp only [occNL, occN, occsL, List.map_append]
theorem occN_eq (t : Ty) : occN t = ((if t.kind = 6 then [t.n] else []) ++ occNL t.kids) ++ (if t.kind = 5 ∧ t.n ≠ 0 then [t.n] else []) := by
  unfold occN occNL
  rw [occs_eq, List.map_append, List.map_append]
  congr 1
  · congr 1
    unfold occV; split <;> rfl
  · unfold occR; split <;> rfl
theorem occN_mk (k : Int) (x : List UInt8) (n : Int) (l : List (List UInt8)) (ks : List Ty) : occN (.mk k x n l ks) = ((if k = 6 then [n] else []) ++ occNL ks) ++ (if k = 5 ∧ n ≠ 0 then [n] else []) := occN_eq _
theorem mem_addN {F : List Int} {n m : Int} : m ∈ addN F n ↔ m ∈ F ∨ m = n := by
  unfold addN
  split
  · rename_i h
    rw [List.contains_iff_mem] at h
    exact ⟨.inl, fun h' => h'.elim id (fun e => e ▸ h)⟩
  · simp
theorem mem_fold {m : Int} : ∀ (xs F : List Int), m ∈ xs.foldl addN F ↔ m ∈ F ∨ m ∈ xs
  | [], F => by simp
  | x :: xs, F => by rw [List.foldl_cons, mem_fold xs, mem_addN, List.mem_cons, or_assoc]
theorem add_mem {F : List Int} {n : Int} (h : n ∈ F) : addN F n = F := by unfold addN; rw [if_pos (List.contains_iff_mem.2 h)]
theorem fold_step {A F : List Int} {x : Int} : (addN A x).foldl addN F = addN (A.foldl addN F) x := by
  by_cases h : x ∈ A
  · rw [add_mem h, add_mem ((mem_fold A F).2 (.inr h))]
  · unfold addN
    rw [if_neg (by rw [List.contains_iff_mem]; exact h), List.foldl_append]; rfl
theorem fold_fold : ∀ (xs A F : List Int), (xs.foldl addN A).foldl addN F = xs.foldl addN (A.foldl addN F)
  | [], A, F => rfl
  | x :: xs, A, F => by rw [List.foldl_cons, List.foldl_cons, fold_fold xs, fold_step]
theorem stF_eq (F : List Int) (t : Ty) : stF F t = (occN t).foldl addN F := fold_fold (occN t) [] F
theorem frF_eq : ∀ (l : List Ty) (F : List Int), l.foldl stF F = (occNL l).foldl addN F
  | [], F => rfl
  | t :: l, F => by rw [List.foldl_cons, frF_eq l, stF_eq, occNL_cons, List.foldl_append]
theorem frL_eq (l : List Ty) : frL l l.length = (occNL l).foldl addN [] := by rw [frL, List.take_length, frF_eq]
theorem mem_occNL {t : Ty} {n : Int} : ∀ {l : List Ty}, t ∈ l → n ∈ occN t → n ∈ occNL l
  | [], h, _ => by simp at h
  | x :: l, h, hn => by
    rw [occNL_cons, List.mem_append]
    rcases List.mem_cons.1 h with rfl | h
    · exact .inl hn
    · exact .inr (mem_occNL h hn)
theorem mem_frL {l : List Ty} {t : Ty} {n : Int} (h : t ∈ l) (hn : n ∈ occN t) : n ∈ frL l l.length := by
  rw [frL_eq, mem_fold]; exact .inr (mem_occNL h hn)
theorem isV_occ {k n : Int} {x : List UInt8} {l : List (List UInt8)} {ks : List Ty} (h : isV k n = true) : n ∈ occN (.mk k x n l ks) := by
  rw [occN_mk]
  simp only [isV, Bool.or_eq_true, decide_eq_true_eq, Bool.and_eq_true] at h
  simp only [List.mem_append]
  rcases h with h | h
  · rw [if_pos h]; exact .inl (.inl (by simp))
  · rw [if_pos h]; exact .inr (by simp)
theorem kid_occ {k n m : Int} {x : List UInt8} {l : List (List UInt8)} {ks : List Ty} (h : m ∈ occNL ks) : m ∈ occN (.mk k x n l ks) := by
  rw [occN_mk]
  simp only [List.mem_append]
  exact .inl (.inr h)
mutual
theorem renT_congr {f g : Int → Int} : ∀ (t : Ty), (∀ n ∈ occN t, f n = g n) → renT f t = renT g t
  | .mk k x n l ks, h => by
    rw [renT, renT, renTL_congr ks fun m hm => h m (kid_occ hm)]
    congr 1
    split
    · rename_i hv; exact h n (isV_occ hv)
    · rfl
theorem renTL_congr {f g : Int → Int} : ∀ (l : List Ty), (∀ n ∈ occNL l, f n = g n) → renTL f l = renTL g l
  | [], _ => rfl
  | t :: l, h => by
    rw [occNL_cons] at h
    rw [renTL, renTL, renT_congr t fun n hn => h n (List.mem_append_left _ hn), renTL_congr l fun n hn => h n (List.mem_append_right _ hn)]
end
theorem isV_map {f : Int → Int} {k n : Int} (h : isV k n = true) (h0 : f n ≠ 0) : isV k (f n) = true := by
  simp only [isV, Bool.or_eq_true, decide_eq_true_eq, Bool.and_eq_true] at h ⊢
  rcases h with h | h
  · exact .inl h
  · exact .inr ⟨h.1, h0⟩
mutual
theorem renT_ren {f g h : Int → Int} : ∀ (t : Ty), (∀ n ∈ occN t, g n ≠ 0 ∧ h (g n) = f n) → renT h (renT g t) = renT f t
  | .mk k x n l ks, hh => by
    rw [renT, renT, renT, renTL_ren ks fun m hm => hh m (kid_occ hm)]
    congr 1
    by_cases hv : isV k n = true
    · have := hh n (isV_occ hv)
      rw [if_pos hv, if_pos (isV_map hv this.1), if_pos hv, this.2]
    · rw [if_neg hv, if_neg hv, if_neg hv]
theorem renTL_ren {f g h : Int → Int} : ∀ (l : List Ty), (∀ n ∈ occNL l, g n ≠ 0 ∧ h (g n) = f n) → renTL h (renTL g l) = renTL f l
  | [], _ => rfl
  | t :: l, hh => by
    rw [occNL_cons] at hh
    rw [renTL, renTL, renTL, renT_ren t fun n hn => hh n (List.mem_append_left _ hn), renTL_ren l fun n hn => hh n (List.mem_append_right _ hn)]
end
mutual
theorem occN_ren {g : Int → Int} : ∀ (t : Ty), (∀ n ∈ occN t, g n ≠ 0) → occN (renT g t) = (occN t).map g
  | .mk k x n l ks, h => by
    have ih := occNL_ren ks fun m hm => h m (kid_occ hm)
    rw [renT, occN_mk, occN_mk]
    simp only [List.map_append, ih]
    by_cases h6 : k = 6
    · have hv : isV k n = true := by simp [isV, h6]
      rw [if_pos h6, if_pos h6, if_pos hv, if_neg (by omega), if_neg (by omega)]; rfl
    · rw [if_neg h6, if_neg h6]
      by_cases h5 : k = 5 ∧ n ≠ 0
      · have hv : isV k n = true := by simp [isV, h5]
        rw [if_pos hv, if_pos ⟨h5.1, h n (isV_occ hv)⟩, if_pos h5]; rfl
      · have hv : ¬ isV k n = true := by
          simp only [isV, Bool.or_eq_true, decide_eq_true_eq, Bool.and_eq_true]
          rintro (hc | hc)
          · exact h6 hc
          · exact h5 hc
        rw [if_neg hv, if_neg h5]; rfl
theorem occNL_ren {g : Int → Int} : ∀ (l : List Ty), (∀ n ∈ occNL l, g n ≠ 0) → occNL (renTL g l) = (occNL l).map g
  | [], _ => rfl
  | t :: l, h => by
    rw [occNL_cons] at h
    rw [renTL, occNL_cons, occNL_cons, List.map_append, occN_ren t fun n hn => h n (List.mem_append_left _ hn), occNL_ren l fun n hn => h n (List.mem_append_right _ hn)]
end
/-- Two lists of numbers and the places of one list agree. -/
theorem refN_atF : ∀ (F : List Int) (k : Nat) (n : Int), n ∈ F → refN F ((List.range F.length).map fun i => ((i + k + 1 : Nat) : Int)) n = (mget n (atF F k)).getD 0
  | [], k, n, h => by simp at h
  | a :: F, k, n, h => by
    rw [List.length_cons, List.range_succ_eq_map, List.map_cons, refN, atF, mget]
    by_cases e : a = n
    · rw [if_pos e, if_pos e.symm]; simp
    · rw [if_neg e, if_neg (fun q => e q.symm), List.map_map]
      have hm : n ∈ F := by
        rcases List.mem_cons.1 h with h | h
        · exact absurd h.symm e
        · exact h
      rw [← refN_atF F (k + 1) n hm]
      congr 1
      refine List.map_congr_left fun i _ => ?_
      simp only [Function.comp]; omega
theorem canT_same (l : List Ty) : canT l = rcanT l := by
  refine List.map_congr_left fun t ht => renT_congr t fun n hn => ?_
  have := refN_atF (frL l l.length) 0 n (mem_frL ht hn)
  simp only [Nat.add_zero] at this
  exact this.symm
theorem add_map {g : Int → Int} {F : List Int} {n : Int} (h : ∀ a ∈ F, g a = g n → a = n) : addN (F.map g) (g n) = (addN F n).map g := by
  unfold addN
  by_cases hm : n ∈ F
  · rw [if_pos (List.contains_iff_mem.2 (List.mem_map_of_mem hm)), if_pos (List.contains_iff_mem.2 hm)]
  · rw [if_neg, if_neg (fun hc => hm (List.contains_iff_mem.1 hc)), List.map_append]
    · rfl
    · rw [List.contains_iff_mem]
      intro hc
      obtain ⟨a, ha, e⟩ := List.mem_map.1 hc
      exact hm (h a ha e ▸ ha)
theorem fold_map {g : Int → Int} : ∀ (xs F : List Int), (∀ a, a ∈ F ∨ a ∈ xs → ∀ b, b ∈ F ∨ b ∈ xs → g a = g b → a = b) → (xs.map g).foldl addN (F.map g) = (xs.foldl addN F).map g
  | [], F, _ => rfl
  | x :: xs, F, h => by
    rw [List.map_cons, List.foldl_cons, List.foldl_cons, add_map fun a ha e => h a (.inl ha) x (.inr (by simp)) e]
    refine fold_map xs (addN F x) fun a ha b hb e => h a ?_ b ?_ e
    · rcases ha with ha | ha
      · rcases mem_addN.1 ha with ha | ha
        · exact .inl ha
        · exact .inr (by simp [ha])
      · exact .inr (by simp [ha])
    · rcases hb with hb | hb
      · rcases mem_addN.1 hb with hb | hb
        · exact .inl hb
        · exact .inr (by simp [hb])
      · exact .inr (by simp [hb])
theorem mget_map {g : Int → Int} : ∀ (F : List Int) (k : Nat) (n : Int), (∀ a ∈ F, g a = g n → a = n) → mget (g n) (atF (F.map g) k) = mget n (atF F k)
  | [], k, n, _ => rfl
  | a :: F, k, n, h => by
    rw [List.map_cons, atF, atF, mget, mget]
    by_cases e : n = a
    · rw [if_pos e, if_pos (congrArg g e)]
    · rw [if_neg e, if_neg (fun q => e (h a (by simp) q.symm).symm)]
      exact mget_map F (k + 1) n fun b hb => h b (by simp [hb])
/-- No numbering changes the answer. -/
theorem canT_ren (l : List Ty) (g : Int → Int) (h0 : ∀ n ∈ occNL l, g n ≠ 0) (hi : ∀ a ∈ occNL l, ∀ b ∈ occNL l, g a = g b → a = b) : canT (l.map (renT g)) = canT l := by
  have hF : frL (l.map (renT g)) (l.map (renT g)).length = (frL l l.length).map g := by
    rw [frL_eq, frL_eq, ← renTL_map, occNL_ren l h0]
    exact fold_map (occNL l) [] fun a ha b hb e => hi a (ha.elim (by simp) id) b (hb.elim (by simp) id) e
  unfold canT
  rw [List.map_map]
  refine List.map_congr_left fun t ht => renT_ren t fun n hn => ?_
  have hm := mem_occNL ht hn
  refine ⟨h0 n hm, ?_⟩
  unfold numF numM atM
  rw [hF, mget_map _ 0 n fun a ha e => ?_]
  rw [frL_eq, mem_fold] at ha
  exact hi a (ha.elim (by simp) id) n hm e
theorem atF_some : ∀ (F : List Int) (k : Nat) (n : Int), n ∈ F → ∃ x, mget n (atF F k) = some x
  | [], k, n, h => by simp at h
  | a :: F, k, n, h => by
    rw [atF, mget]
    by_cases e : n = a
    · rw [if_pos e]; exact ⟨_, rfl⟩
    · rw [if_neg e]
      rcases List.mem_cons.1 h with h | h
      · exact absurd h e
      · exact atF_some F (k + 1) n h
theorem atF_inj : ∀ (F : List Int) (k : Nat) (a b x : Int), mget a (atF F k) = some x → mget b (atF F k) = some x → a = b
  | [], k, a, b, x, h, _ => by simp [atF, mget] at h
  | c :: F, k, a, b, x, ha, hb => by
    rw [atF, mget] at ha hb
    split at ha <;> split at hb
    · rename_i e1 e2; rw [show a = c from e1, show b = c from e2]
    · have := ((atF_get F (k + 1) b).2 x hb).2
      cases ha; omega
    · have := ((atF_get F (k + 1) a).2 x ha).2
      cases hb; omega
    · exact atF_inj F (k + 1) a b x ha hb
/-- The answer stays. -/
theorem canT_twice (l : List Ty) : canT (canT l) = canT l := by
  have hs : ∀ n ∈ occNL l, ∃ x, mget n (atM (frL l l.length)) = some x ∧ numF l n = x ∧ 0 < x := by
    intro n hn
    obtain ⟨x, hx⟩ := atF_some (frL l l.length) 0 n (by rw [frL_eq, mem_fold]; exact .inr hn)
    exact ⟨x, hx, by unfold numF numM; rw [show mget n (atM (frL l l.length)) = some x from hx]; rfl, at_pos hx⟩
  refine canT_ren l (numF l) (fun n hn => ?_) fun a ha b hb e => ?_
  · obtain ⟨x, _, h2, h3⟩ := hs n hn
    omega
  · obtain ⟨x, h1, h2, _⟩ := hs a ha
    obtain ⟨y, g1, g2, _⟩ := hs b hb
    have : x = y := by omega
    subst this
    exact atF_inj _ 0 a b x h1 g1
end Go.Proofs.YtdikgijfekfaoaaGreatDoor
